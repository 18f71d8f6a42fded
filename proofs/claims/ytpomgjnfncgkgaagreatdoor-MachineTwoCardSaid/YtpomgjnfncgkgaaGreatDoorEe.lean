/- Part of the proof: an evaluator of the model's code, rules for walks on it, walks. Without conditions. -/
import Derived.Test.YtpomgjnfncgkgaaGreatDoorEc
import Derived.Test.YtpomgjnfncgkgaaGreatDoorEd
set_option linter.unusedSectionVars false
set_option linter.unusedVariables false
set_option linter.unusedSimpArgs false
namespace Go.Ev
variable [Env]
open Go.Proofs
set_option maxRecDepth 4000
set_option maxHeartbeats 8000000
theorem Fj {G : Cx} (hG : Plain G) {K : KP} {g1 g2 : XG} {a1 b1 c1 d1 a2 b2 c2 d2 : AV} {σ : av} {L : Own} (hst : St σ K L) (h1 : eX K g1 a1 b1 c1 d1) (h2 : eX K g2 a2 b2 c2 d2) :
  a7 Tryz.prog G 17 [.agg [a1, b1, c1, d1], .agg [a2, b2, c2, d2]] σ fun v σ' => v = .bool (cz g1 g2) ∧ St σ' K L := by
 obtain ⟨hi1, ht1, hf1, ho1⟩ := h1
 obtain ⟨hi2, ht2, hf2, ho2⟩ := h2
 refine a8 hG Tryz.func17 rfl (t := (PT.leaf.put (some (.agg [a1, b1, c1, d1])) 0).put (some (.agg [a2, b2, c2, d2])) 1) (by rfl) (aj (ah rfl (bp hst rfl (cU rfl rfl) (fun _ => rfl) (fun σ b1 hst => ?_))))
 refine bp hst rfl (cU rfl rfl) (fun _ => rfl) (fun σ b2 hst => ?_)
 refine vQ 1 rfl (nT (aj (aj (ah rfl (aa rfl (Iz 0 rfl) rfl (aa rfl (Ia rfl (hst.get 1 rfl) rfl) rfl (aa rfl (Iz 0 rfl) rfl (aa rfl (Ia rfl (hst.get 0 rfl) rfl) rfl (a9 rfl (It rfl rfl rfl) (fun _ => rfl) (Ab hG hst hi1 hi2) (fun σ hst => ?_))))))))))
 refine aa rfl (dI rfl) rfl (aL rfl (al rfl) (fun _ => rfl) (fun h14 => ?_) (fun h14 => ?_))
 ·refine vQ 26 rfl (nT (aC rfl (aj (ah rfl (vQ 1 rfl (nT (aB (au (?_)))))))))
  exact ay rfl rfl ⟨congrArg AV.bool (by have e0 : cz g1.init g2.init = false := (by simpa using h14); rw [jX]; simp only [e0, Bool.and_true, Bool.true_and, Bool.and_false, Bool.false_and]), hst.pop.pop⟩
 ·refine aa rfl (Iz 1 rfl) rfl (aa rfl (Ia rfl (hst.get 1 rfl) rfl) rfl (aa rfl (H9 ht1 rfl rfl rfl (e := 57) rfl) rfl (aa rfl (Iz 1 rfl) rfl (aa rfl (Ia rfl (hst.get 0 rfl) rfl) rfl (aa rfl (H9 ht2 rfl rfl rfl (e := 57) rfl) rfl (vQ 2 rfl (aL rfl (al rfl) (fun _ => rfl) (fun h23 => ?_) (fun h23 => ?_))))))))
  ·refine vQ 17 rfl (nT (aC rfl (aj (ah rfl (vQ 1 rfl (nT (aB (au (?_)))))))))
   exact ay rfl rfl ⟨congrArg AV.bool (by have e0 : cz g1.init g2.init = true := (by simpa using h14); have e1 := dP (bM h23); rw [jX]; simp only [e0, e1, Bool.and_true, Bool.true_and, Bool.and_false, Bool.false_and]), hst.pop.pop⟩
  ·refine aa rfl (Iz 2 rfl) rfl (aa rfl (Ia rfl (hst.get 1 rfl) rfl) rfl (aa rfl (H9 hf1 rfl rfl rfl (e := 74) rfl) rfl (aa rfl (Iz 2 rfl) rfl (aa rfl (Ia rfl (hst.get 0 rfl) rfl) rfl (aa rfl (H9 hf2 rfl rfl rfl (e := 74) rfl) rfl (vQ 2 rfl (aL rfl (al rfl) (fun _ => rfl) (fun h32 => ?_) (fun h32 => ?_))))))))
   ·refine vQ 8 rfl (nT (aC rfl (aj (ah rfl (vQ 1 rfl (nT (aB (au (?_)))))))))
    exact ay rfl rfl ⟨congrArg AV.bool (by have e0 : cz g1.init g2.init = true := (by simpa using h14); have e2 := dP (bM h32); rw [jX]; simp only [e0, e2, Bool.and_true, Bool.true_and, Bool.and_false, Bool.false_and]), hst.pop.pop⟩
   ·refine aa rfl (Iz 3 rfl) rfl (aa rfl (Ia rfl (hst.get 1 rfl) rfl) rfl (aa rfl (H9 ho1 rfl rfl rfl (e := 74) rfl) rfl (aa rfl (Iz 3 rfl) rfl (aa rfl (Ia rfl (hst.get 0 rfl) rfl) rfl (aa rfl (H9 ho2 rfl rfl rfl (e := 74) rfl) rfl (vQ 2 rfl (nT (aE rfl (fun h40 => ?_) (fun h40 => ?_)))))))))
    ·refine aj (ah rfl (vQ 1 rfl (nT (aB (au (?_))))))
     exact ay rfl rfl ⟨congrArg AV.bool (by have e0 : cz g1.init g2.init = true := (by simpa using h14); have e3 := dP (bM h40); rw [jX]; simp only [e0, e3, Bool.and_true, Bool.true_and, Bool.and_false, Bool.false_and]), hst.pop.pop⟩
    ·refine aF (ad (aj (aj (ah rfl (vQ 1 rfl (nT (aP ?_)))))))
     obtain ⟨LL1, hst, hLL1⟩ := hst.named
     refine bu [4, 5, 41, 42, 43, 44, 45, 46, 47, 48, 49, 50, 51, 52, 53, 54, 55, 56, 57, 58, 59] (fun j t σ => ∃ (i : Nat), j + i = g1.threads.length ∧ (∀ k, k < i → g1.threads[k]? = g2.threads[k]?) ∧ t.get 5 = some (.int .i64 (.ofNat i)) ∧ St σ K LL1) (g1.threads.length) ⟨0, rfl, fun k hk => absurd hk (Nat.not_lt_zero _), rfl, hst⟩ ?_
     clear hst; intro j4 t σ ar hI; obtain ⟨i, hj4, hs4, hv5, hst⟩ := hI
     subst hLL1
     obtain ⟨o4, o5, o41, o42, o43, o44, o45, o46, o47, o48, o49, o50, o51, o52, o53, o54, ar⟩ := ar.HE rfl rfl rfl rfl
     replace ar := ar.rp rfl; obtain ⟨o55, o56, o57, o58, ar⟩ := ar
     replace ar := ar.fD rfl; obtain ⟨o59, ar⟩ := ar
     obtain rfl := ar.nil; clear ar
     replace hv5 : o5 = some _ := hv5; subst hv5
     refine aj (aj (ah rfl (vQ 1 rfl (aa rfl (Iz 1 rfl) rfl (aa rfl (Ia rfl (hst.get 1 rfl) rfl) rfl (aa rfl (H9 ht1 rfl rfl rfl (e := 57) rfl) rfl (vQ 1 rfl (nT (aE rfl (fun h45 => ?_) (fun h45 => ?_))))))))))
     ·refine aF (ad (aj (aP (aj (aR (l := [(0, []), (1, []), (2, []), (3, []), (4, []), (5, []), (6, []), (7, []), (8, []), (9, []), (10, []), (11, [])]) (by kernel_rfl) (by kernel_rfl) (an rfl rfl (Iz 1 rfl) rfl (an rfl rfl (Ia rfl (hst.get 1 rfl) rfl) rfl (wQ 1 rfl ?_))))))))
      obtain ⟨x51, hx51, hi51⟩ := dv h45
      refine Ic (e := 57) (m := 1) ht1 hx51 rfl rfl rfl rfl rfl (fun _ => rfl) (fun p51 vs51 hp51 hl51 hr51 => ?_)
      have hr51' := hr51; obtain ⟨v51, rfl, hk51⟩ := hr51'
      refine an rfl rfl (Ih hst hp51 rfl rfl) rfl (an rfl rfl (Iz 1 rfl) rfl (an rfl rfl (Ia rfl (hst.get 0 rfl) rfl) rfl (wQ 1 rfl ?_)))
      obtain ⟨x56, hx56⟩ := cL (show _ < g2.threads.length from by rw [← dc (a6 h23)]; exact hi51)
      refine Ic (e := 57) (m := 1) ht2 hx56 rfl rfl rfl rfl rfl (fun _ => rfl) (fun p56 vs56 hp56 hl56 hr56 => ?_)
      have hr56' := hr56; obtain ⟨v56, rfl, hk56⟩ := hr56'
      refine an rfl rfl (Ih hst hp56 rfl rfl) rfl (dt rfl rfl (It rfl rfl rfl) (fun _ => rfl) (D5 hG hst hk51 hk56) (fun σ hst => ?_))
      refine ⟨aY, ?_⟩
      refine an rfl rfl (dI rfl) rfl (ba (ad (aE rfl (fun h59 => ?_) (fun h59 => ?_))))
      ·refine aj (ah rfl (vQ 1 rfl (nT (aB (aD (au (bx (aD (au (?_))))))))))
       exact ay rfl rfl ⟨congrArg AV.bool (by have e0 : cz g1.init g2.init = true := (by simpa using h14); have e1 := eh hx51 hx56 (by simpa using h59); rw [jX]; simp only [e0, e1, Bool.and_true, Bool.true_and, Bool.and_false, Bool.false_and]), hst.pop.pop⟩
      ·refine aF (aK (ad (ah rfl (vQ 3 rfl (af (aQ ⟨j4 - 1, by omega, (by (iterate 41 refine bq.put rfl ?_); exact bq.refl _ _), i + 1, by omega, gV hs4 hx51 hx56 (by simpa using h59), congrArg (fun z => some (AV.int .i64 z)) (bg (by have := ht1.bG; omega)), hst⟩))))))
     ·refine bz (aZ (bc (aU (ad (aj (aj (ah rfl (vQ 1 rfl (nT (aP ?_))))))))))
      obtain ⟨LL2, hst, hLL2⟩ := hst.named
      refine bu [4, 6, 60, 61, 62, 63, 64, 65, 66, 67, 68, 69, 70, 71, 72, 73, 74, 75, 76, 77, 78] (fun j t σ => ∃ (i2 : Nat), j + i2 = g1.from_.length ∧ (∀ k, k < i2 → g1.from_[k]? = g2.from_[k]?) ∧ t.get 6 = some (.int .i64 (.ofNat i2)) ∧ St σ K LL2) (g1.from_.length) ⟨0, rfl, fun k hk => absurd hk (Nat.not_lt_zero _), rfl, hst⟩ ?_
      clear hst; intro j9 t σ ar hI; obtain ⟨i2, hj9, hs9, hv6, hst⟩ := hI
      subst hLL2
      obtain ⟨o4, o6, o60, o61, o62, o63, o64, o65, o66, o67, o68, o69, o70, o71, o72, o73, ar⟩ := ar.HE rfl rfl rfl rfl
      replace ar := ar.rp rfl; obtain ⟨o74, o75, o76, o77, ar⟩ := ar
      replace ar := ar.fD rfl; obtain ⟨o78, ar⟩ := ar
      obtain rfl := ar.nil; clear ar
      replace hv6 : o6 = some _ := hv6; subst hv6
      refine aj (aj (ah rfl (vQ 1 rfl (aa rfl (Iz 2 rfl) rfl (aa rfl (Ia rfl (hst.get 1 rfl) rfl) rfl (aa rfl (H9 hf1 rfl rfl rfl (e := 74) rfl) rfl (vQ 1 rfl (nT (aE rfl (fun h64 => ?_) (fun h64 => ?_))))))))))
      ·refine aF (ad (aj (aP (aj (aR (l := [(0, []), (1, []), (2, []), (3, []), (4, []), (5, []), (6, []), (7, []), (8, []), (9, []), (10, []), (11, [])]) (by kernel_rfl) (by kernel_rfl) (an rfl rfl (Iz 2 rfl) rfl (an rfl rfl (Ia rfl (hst.get 1 rfl) rfl) rfl (wQ 1 rfl ?_))))))))
       obtain ⟨x70, hx70, hi70⟩ := dv h64
       refine Ic (e := 74) (m := 1) hf1 hx70 rfl rfl rfl rfl rfl (fun _ => rfl) (fun p70 vs70 hp70 hl70 hr70 => ?_)
       have hr70' := hr70; obtain ⟨v70, rfl, hk70⟩ := hr70'
       refine an rfl rfl (Ih hst hp70 rfl rfl) rfl (an rfl rfl (Iz 2 rfl) rfl (an rfl rfl (Ia rfl (hst.get 0 rfl) rfl) rfl (wQ 1 rfl ?_)))
       obtain ⟨x75, hx75⟩ := cL (show _ < g2.from_.length from by rw [← dc (a6 h32)]; exact hi70)
       refine Ic (e := 74) (m := 1) hf2 hx75 rfl rfl rfl rfl rfl (fun _ => rfl) (fun p75 vs75 hp75 hl75 hr75 => ?_)
       have hr75' := hr75; obtain ⟨v75, rfl, hk75⟩ := hr75'
       refine an rfl rfl (Ih hst hp75 rfl rfl) rfl (dt rfl rfl (It rfl rfl rfl) (fun _ => rfl) (Fz hG hst hk70 hk75) (fun σ hst => ?_))
       refine ⟨aY, ?_⟩
       refine an rfl rfl (dI rfl) rfl (ba (ad (aE rfl (fun h78 => ?_) (fun h78 => ?_))))
       ·refine aj (ah rfl (vQ 1 rfl (nT (aB (aD (au (bx (aD (au (?_))))))))))
        exact ay rfl rfl ⟨congrArg AV.bool (by have e0 : cz g1.init g2.init = true := (by simpa using h14); have e1 := dk (dc (a6 h23)) (bn h45) hs4; have e2 := eh hx70 hx75 (by simpa using h78); rw [jX]; simp only [e0, e1, e2, Bool.and_true, Bool.true_and, Bool.and_false, Bool.false_and]), hst.pop.pop⟩
       ·refine aF (aK (ad (ah rfl (vQ 3 rfl (af (aQ ⟨j9 - 1, by omega, (by (iterate 41 refine bq.put rfl ?_); exact bq.refl _ _), i2 + 1, by omega, gV hs9 hx70 hx75 (by simpa using h78), congrArg (fun z => some (AV.int .i64 z)) (bg (by have := hf1.bG; omega)), hst⟩))))))
      ·refine bz (aZ (bc (aU (ad (aj (aj (ah rfl (vQ 1 rfl (nT (aP ?_))))))))))
       obtain ⟨LL3, hst, hLL3⟩ := hst.named
       refine bu [4, 7, 79, 80, 81, 82, 83, 84, 85, 86, 87, 88, 89, 90, 91, 92, 93, 94, 95, 96, 97] (fun j t σ => ∃ (i3 : Nat), j + i3 = g1.order.length ∧ (∀ k, k < i3 → g1.order[k]? = g2.order[k]?) ∧ t.get 7 = some (.int .i64 (.ofNat i3)) ∧ St σ K LL3) (g1.order.length) ⟨0, rfl, fun k hk => absurd hk (Nat.not_lt_zero _), rfl, hst⟩ ?_
       clear hst; intro j14 t σ ar hI; obtain ⟨i3, hj14, hs14, hv7, hst⟩ := hI
       subst hLL3
       obtain ⟨o4, o7, o79, o80, o81, o82, o83, o84, o85, o86, o87, o88, o89, o90, o91, o92, ar⟩ := ar.HE rfl rfl rfl rfl
       replace ar := ar.rp rfl; obtain ⟨o93, o94, o95, o96, ar⟩ := ar
       replace ar := ar.fD rfl; obtain ⟨o97, ar⟩ := ar
       obtain rfl := ar.nil; clear ar
       replace hv7 : o7 = some _ := hv7; subst hv7
       refine aj (aj (ah rfl (vQ 1 rfl (aa rfl (Iz 3 rfl) rfl (aa rfl (Ia rfl (hst.get 1 rfl) rfl) rfl (aa rfl (H9 ho1 rfl rfl rfl (e := 74) rfl) rfl (vQ 1 rfl (nT (aE rfl (fun h83 => ?_) (fun h83 => ?_))))))))))
       ·refine aF (ad (aj (aP (aj (aR (l := [(0, []), (1, []), (2, []), (3, []), (4, []), (5, []), (6, []), (7, []), (8, []), (9, []), (10, []), (11, [])]) (by kernel_rfl) (by kernel_rfl) (an rfl rfl (Iz 3 rfl) rfl (an rfl rfl (Ia rfl (hst.get 1 rfl) rfl) rfl (wQ 1 rfl ?_))))))))
        obtain ⟨x89, hx89, hi89⟩ := dv h83
        refine Ic (e := 74) (m := 1) ho1 hx89 rfl rfl rfl rfl rfl (fun _ => rfl) (fun p89 vs89 hp89 hl89 hr89 => ?_)
        have hr89' := hr89; obtain ⟨v89, rfl, hk89⟩ := hr89'
        refine an rfl rfl (Ih hst hp89 rfl rfl) rfl (an rfl rfl (Iz 3 rfl) rfl (an rfl rfl (Ia rfl (hst.get 0 rfl) rfl) rfl (wQ 1 rfl ?_)))
        obtain ⟨x94, hx94⟩ := cL (show _ < g2.order.length from by rw [← dc (a6 h40)]; exact hi89)
        refine Ic (e := 74) (m := 1) ho2 hx94 rfl rfl rfl rfl rfl (fun _ => rfl) (fun p94 vs94 hp94 hl94 hr94 => ?_)
        have hr94' := hr94; obtain ⟨v94, rfl, hk94⟩ := hr94'
        refine an rfl rfl (Ih hst hp94 rfl rfl) rfl (dt rfl rfl (It rfl rfl rfl) (fun _ => rfl) (Fz hG hst hk89 hk94) (fun σ hst => ?_))
        refine ⟨aY, ?_⟩
        refine an rfl rfl (dI rfl) rfl (ba (ad (aE rfl (fun h97 => ?_) (fun h97 => ?_))))
        ·refine aj (ah rfl (vQ 1 rfl (nT (aB (aD (au (bx (aD (au (?_))))))))))
         exact ay rfl rfl ⟨congrArg AV.bool (by have e0 : cz g1.init g2.init = true := (by simpa using h14); have e1 := dk (dc (a6 h23)) (bn h45) hs4; have e2 := dk (dc (a6 h32)) (bn h64) hs9; have e3 := eh hx89 hx94 (by simpa using h97); rw [jX]; simp only [e0, e1, e2, e3, Bool.and_true, Bool.true_and, Bool.and_false, Bool.false_and]), hst.pop.pop⟩
        ·refine aF (aK (ad (ah rfl (vQ 3 rfl (af (aQ ⟨j14 - 1, by omega, (by (iterate 41 refine bq.put rfl ?_); exact bq.refl _ _), i3 + 1, by omega, gV hs14 hx89 hx94 (by simpa using h97), congrArg (fun z => some (AV.int .i64 z)) (bg (by have := ho1.bG; omega)), hst⟩))))))
       ·refine bz (aZ (bc (aU (ad (aj (ah rfl (vQ 1 rfl (nT (aB ?_)))))))))
        exact ay rfl rfl ⟨congrArg AV.bool (by have e0 : cz g1.init g2.init = true := (by simpa using h14); have e1 := dk (dc (a6 h23)) (bn h45) hs4; have e2 := dk (dc (a6 h32)) (bn h64) hs9; have e3 := dk (dc (a6 h40)) (bn h83) hs14; rw [jX]; simp only [e0, e1, e2, e3, Bool.and_true, Bool.true_and, Bool.and_false, Bool.false_and]), hst.pop.pop⟩
theorem AN {G : Cx} (hG : Plain G) {K : KP} (e : cS) {σ : av} {L : Own} (hst : St σ K L) : a7 Tryz.prog G 110 [.agg (ints e.ints)] σ fun v σ' => v = .bool (dN e) ∧ St σ' K L := by
 refine a8 hG Tryz.func110 rfl (t := PT.leaf.put (some (.agg (ints e.ints))) 0) (by rfl) (aj (ah rfl (bp hst rfl (cU rfl rfl) (fun _ => rfl) (fun σ b1 hst => ?_))))
 refine vQ 1 rfl (nS rfl (aa rfl (Iz 0 rfl) rfl (aa rfl (Ia rfl (hst.get 0 rfl) rfl) rfl (vQ 1 rfl (aL rfl (al rfl) (fun _ => rfl) (fun h6 => ?_) (fun h6 => ?_))))))
 ·refine vQ 5 rfl (nT (aB ?_))
  exact ay rfl rfl ⟨congrArg AV.bool (by unfold dN; simp only [h6, cond_true, cond_false]), hst.pop⟩
 ·refine aa rfl (Iz 0 rfl) rfl (aa rfl (Ia rfl (hst.get 0 rfl) rfl) rfl (vQ 3 rfl (nT (aB ?_))))
  exact ay rfl rfl ⟨congrArg AV.bool (by unfold dN; simp only [h6, cond_true, cond_false]), hst.pop⟩
theorem gn {G : Cx} (hG : Plain G) {K : KP} (e : cS) {σ : av} {L : Own} (hst : St σ K L) : a7 Tryz.prog G 68 [.agg (ints e.ints)] σ fun v σ' => v = .bool (bH e) ∧ St σ' K L := by
 refine a8 hG Tryz.func68 rfl (t := PT.leaf.put (some (.agg (ints e.ints))) 0) (by rfl) (aj (ah rfl (bp hst rfl (cU rfl rfl) (fun _ => rfl) (fun σ b1 hst => ?_))))
 refine vQ 1 rfl (nS rfl (aa rfl (Iz 0 rfl) rfl (aa rfl (Ia rfl (hst.get 0 rfl) rfl) rfl (vQ 1 rfl (aL rfl (al rfl) (fun _ => rfl) (fun h6 => ?_) (fun h6 => ?_))))))
 ·refine vQ 5 rfl (nT (aB ?_))
  exact ay rfl rfl ⟨congrArg AV.bool (by unfold bH; simp only [h6, cond_true, cond_false]), hst.pop⟩
 ·refine aa rfl (Iz 0 rfl) rfl (aa rfl (Ia rfl (hst.get 0 rfl) rfl) rfl (vQ 3 rfl (nT (aB ?_))))
  exact ay rfl rfl ⟨congrArg AV.bool (by unfold bH; simp only [h6, cond_true, cond_false]), hst.pop⟩
theorem wz {G : Cx} (hG : Plain G) {K : KP} {g : XG} {a b c d : AV} (h : eX K g a b c d) (th ix : Int) {σ : av} {L : Own} (hst : St σ K L) : a7 Tryz.prog G 71 [.agg [a, b, c, d], .agg [.int .i64 th, .int .i64 ix]] σ fun v σ' => v = .tuple [.agg (ints (Bv (fA g ⟨th, ix⟩)).ints), .bool (fA g ⟨th, ix⟩).isSome] ∧ St σ' K L := by
 have h' := h; obtain ⟨hi, ht, hf, ho⟩ := h'
 refine a8 hG Tryz.func71 rfl (t := (PT.leaf.put (some (.agg [a, b, c, d])) 0).put (some (.agg [.int .i64 th, .int .i64 ix])) 1) (by rfl) (aj (ah rfl (bp hst rfl (cU rfl rfl) (fun _ => rfl) (fun σ b1 hst => ?_))))
 refine bp hst rfl (cU rfl rfl) (fun _ => rfl) (fun σ b2 hst => ?_)
 refine bp hst rfl (Ix (cs := [.int .i64 0, .int .i64 0, .int .i64 0, .int .i64 0, .int .i64 0])) (fun _ => rfl) (fun σ b3 hst => ?_)
 refine vQ 1 rfl (nT (aj (aj (ah rfl (aa rfl (Iz 0 rfl) rfl (aa rfl (Ia rfl (hst.get 1 rfl) rfl) rfl (vQ 1 rfl (aL rfl (al rfl) (fun _ => rfl) (fun h9 => ?_) (fun h9 => ?_)))))))))
 ·refine vQ 12 rfl (nT (aC rfl (aj (ah rfl (aa rfl (Is (places := [(0, 1), (1, 1), (2, 1), (3, 1), (4, 1)]) (zero := [.int .i64 0, .int .i64 0, .int .i64 0, .int .i64 0, .int .i64 0]) (cs := [_, _, _, _, _]) rfl) rfl (bA hst rfl (Io rfl rfl rfl (hst.get 0 rfl) (m := 5) rfl rfl (cells' := [_, _, _, _, _]) rfl) rfl (fun σ hst => ?_)))))))
  refine vQ 1 rfl (nT (aB (au (?_))))
  exact bm rfl rfl (hst.get 0 rfl) (m := 5) (by kernel_rfl) rfl rfl ⟨by rw [uO h9]; rfl, hst.pop.pop.pop⟩
 ·refine aa rfl (Iz 0 rfl) rfl (aa rfl (Ia rfl (hst.get 1 rfl) rfl) rfl (aa rfl (Iz 1 rfl) rfl (aa rfl (Ia rfl (hst.get 2 rfl) rfl) rfl (aa rfl (H9 ht rfl rfl rfl (e := 57) rfl) rfl (vQ 2 rfl (aL rfl (al rfl) (fun _ => rfl) (fun h17 => ?_) (fun h17 => ?_)))))))
  ·refine vQ 4 rfl (nT (aC rfl (aj (ah rfl (aa rfl (Is (places := [(0, 1), (1, 1), (2, 1), (3, 1), (4, 1)]) (zero := [.int .i64 0, .int .i64 0, .int .i64 0, .int .i64 0, .int .i64 0]) (cs := [_, _, _, _, _]) rfl) rfl (bA hst rfl (Io rfl rfl rfl (hst.get 0 rfl) (m := 5) rfl rfl (cells' := [_, _, _, _, _]) rfl) rfl (fun σ hst => ?_)))))))
   refine vQ 1 rfl (nT (aB (au (?_))))
   exact bm rfl rfl (hst.get 0 rfl) (m := 5) (by kernel_rfl) rfl rfl ⟨by rw [D0 h17]; rfl, hst.pop.pop.pop⟩
  ·refine aa rfl (Iz 1 rfl) rfl (aa rfl (Ia rfl (hst.get 1 rfl) rfl) rfl (vQ 2 rfl (nT (aE rfl (fun h21 => ?_) (fun h21 => ?_)))))
   ·refine aj (ah rfl (aa rfl (Is (places := [(0, 1), (1, 1), (2, 1), (3, 1), (4, 1)]) (zero := [.int .i64 0, .int .i64 0, .int .i64 0, .int .i64 0, .int .i64 0]) (cs := [_, _, _, _, _]) rfl) rfl (bA hst rfl (Io rfl rfl rfl (hst.get 0 rfl) (m := 5) rfl rfl (cells' := [_, _, _, _, _]) rfl) rfl (fun σ hst => ?_))))
    refine vQ 1 rfl (nT (aB (au (?_))))
    exact bm rfl rfl (hst.get 0 rfl) (m := 5) (by kernel_rfl) rfl rfl ⟨by rw [uF h21]; rfl, hst.pop.pop.pop⟩
   ·obtain ⟨tn, rfl⟩ := qw h9; obtain ⟨ixn, rfl⟩ := qw h21
    refine aF (ad (aj (aj (ah rfl (aa rfl (Iz 0 rfl) rfl (aa rfl (Ia rfl (hst.get 1 rfl) rfl) rfl (vQ 1 rfl (nT (aE rfl (fun h25 => ?_) (fun h25 => ?_))))))))))
    ·obtain rfl : tn = 0 := by rw [dX] at h25; simpa using h25
     refine aj (aj (ah rfl (aa rfl (Iz 1 rfl) rfl (aa rfl (Ia rfl (hst.get 1 rfl) rfl) rfl (aa rfl (Iz 0 rfl) rfl (aa rfl (Ia rfl (hst.get 2 rfl) rfl) rfl (aa rfl (H9 hi rfl rfl rfl (e := 2) rfl) rfl (vQ 1 rfl (nT (aE rfl (fun h31 => ?_) (fun h31 => ?_)))))))))))
     ·refine aj (ah rfl (aa rfl (Is (places := [(0, 1), (1, 1), (2, 1), (3, 1), (4, 1)]) (zero := [.int .i64 0, .int .i64 0, .int .i64 0, .int .i64 0, .int .i64 0]) (cs := [_, _, _, _, _]) rfl) rfl (bA hst rfl (Io rfl rfl rfl (hst.get 0 rfl) (m := 5) rfl rfl (cells' := [_, _, _, _, _]) rfl) rfl (fun σ hst => ?_))))
      refine vQ 1 rfl (nT (aB (au (au (?_)))))
      exact bm rfl rfl (hst.get 0 rfl) (m := 5) (by kernel_rfl) rfl rfl ⟨by rw [show fA g _ = none from by show (g.init[ixn]?).map _ = _; rw [List.getElem?_eq_none (sB h31)]; rfl]; rfl, hst.pop.pop.pop⟩
     ·refine aF (ad (aj (aR (l := [(0, []), (1, []), (2, []), (3, []), (4, []), (5, []), (6, []), (7, []), (8, []), (9, []), (10, [])]) (by kernel_rfl) (by kernel_rfl) (an rfl rfl (Iz 1 rfl) rfl (an rfl rfl (Ia rfl (hst.get 1 rfl) rfl) rfl (an rfl rfl (Iz 0 rfl) rfl (an rfl rfl (Ia rfl (hst.get 2 rfl) rfl) rfl (an rfl rfl (Iz 1 rfl) rfl (an rfl rfl (Ia rfl (hst.get 1 rfl) rfl) rfl ?_)))))))))
      obtain ⟨x39, hx39⟩ := cL (ta h31)
      refine Ic (e := 2) (m := 1) hi hx39 rfl rfl rfl rfl rfl (fun _ => rfl) (fun p39 vs39 hp39 hl39 hr39 => ?_)
      obtain rfl := hr39
      refine an rfl rfl (Ih hst hp39 rfl rfl) rfl (an rfl rfl (Is (places := [(0, 1), (1, 1), (2, 1), (3, 1), (4, 1)]) (zero := [.int .i64 0, .int .i64 0, .int .i64 0, .int .i64 0, .int .i64 0]) (cs := [_, _, _, _, _]) rfl) rfl (lK hst rfl rfl (Io rfl rfl rfl (hst.get 0 rfl) (m := 5) rfl rfl (cells' := [_, _, _, _, _]) rfl) rfl (fun σ hst => ?_)))
      refine ⟨aY, ?_⟩
      refine wQ 1 rfl (ba (ad (aB (au (?_)))))
      exact bm rfl rfl (hst.get 0 rfl) (m := 5) (by kernel_rfl) rfl rfl ⟨by rw [show fA g _ = some _ from by show (g.init[ixn]?).map _ = _; rw [hx39]; rfl]; rfl, hst.pop.pop.pop⟩
    ·obtain ⟨tm, rfl⟩ := Fa h25
     refine aF (ad (aj (aj (aR (l := [(0, []), (1, []), (2, []), (3, []), (4, []), (5, []), (6, []), (7, []), (8, []), (9, []), (10, [])]) (by kernel_rfl) (by kernel_rfl) (an rfl rfl (Iz 1 rfl) rfl (an rfl rfl (Ia rfl (hst.get 1 rfl) rfl) rfl (an rfl rfl (Iz 1 rfl) rfl (an rfl rfl (Ia rfl (hst.get 2 rfl) rfl) rfl (an rfl rfl (Iz 0 rfl) rfl (an rfl rfl (Ia rfl (hst.get 1 rfl) rfl) rfl (wQ 1 rfl ?_)))))))))))
     obtain ⟨x49, hx49⟩ := cL (show tm < g.threads.length from by have := pE h17; omega)
     refine Ic (e := 57) (m := 1) ht hx49 rfl rfl rfl rfl (congrArg (fun z => some (AV.int .i64 z)) (fj (by have := pE h17; have := ht.bG; omega))) (fun _ => rfl) (fun p49 vs49 hp49 hl49 hr49 => ?_)
     have hr49' := hr49; obtain ⟨v49, rfl, hk49⟩ := hr49'
     refine an rfl rfl (Ih hst hp49 rfl rfl) rfl (an rfl rfl (H9 hk49 rfl rfl rfl (e := 56) rfl) rfl (wQ 1 rfl (ba (ad (aE rfl (fun h52 => ?_) (fun h52 => ?_))))))
     ·refine aj (ah rfl (aa rfl (Is (places := [(0, 1), (1, 1), (2, 1), (3, 1), (4, 1)]) (zero := [.int .i64 0, .int .i64 0, .int .i64 0, .int .i64 0, .int .i64 0]) (cs := [_, _, _, _, _]) rfl) rfl (bA hst rfl (Io rfl rfl rfl (hst.get 0 rfl) (m := 5) rfl rfl (cells' := [_, _, _, _, _]) rfl) rfl (fun σ hst => ?_))))
      refine vQ 1 rfl (nT (aB (au (?_))))
      exact bm rfl rfl (hst.get 0 rfl) (m := 5) (by kernel_rfl) rfl rfl ⟨by rw [show fA g _ = none from by show (g.threads[tm]?).bind _ = _; rw [hx49]; exact List.getElem?_eq_none (sB h52)]; rfl, hst.pop.pop.pop⟩
     ·refine aF (ad (aj (aR (l := [(0, []), (1, []), (2, []), (3, []), (4, []), (5, []), (6, []), (7, []), (8, []), (9, []), (10, []), (11, []), (12, [])]) (by kernel_rfl) (by kernel_rfl) (an rfl rfl (Iz 1 rfl) rfl (an rfl rfl (Ia rfl (hst.get 2 rfl) rfl) rfl (an rfl rfl (Iz 0 rfl) rfl (an rfl rfl (Ia rfl (hst.get 1 rfl) rfl) rfl (wQ 1 rfl (Ic (e := 57) (m := 1) ht hx49 rfl rfl rfl rfl (congrArg (fun z => some (AV.int .i64 z)) (fj (by have := pE h17; have := ht.bG; omega))) (fun _ => rfl) (fun p59 vs59 hp59 hl59 hr59 => ?_))))))))))
      have hr59' := hr59; obtain ⟨v59, rfl, hk59⟩ := hr59'
      refine an rfl rfl (Ih hst hp59 rfl rfl) rfl (an rfl rfl (Iz 1 rfl) rfl (an rfl rfl (Ia rfl (hst.get 1 rfl) rfl) rfl ?_))
      obtain ⟨x63, hx63⟩ := cL (ta h52)
      refine Ic (e := 56) (m := 5) hk59 hx63 rfl rfl rfl rfl rfl (fun _ => rfl) (fun p63 vs63 hp63 hl63 hr63 => ?_)
      obtain rfl := hr63
      refine an rfl rfl (cr hst hp63 rfl (by kernel_rfl) rfl) rfl (lK hst rfl rfl (Io rfl rfl rfl (hst.get 0 rfl) (m := 5) rfl rfl (cells' := [_, _, _, _, _]) rfl) rfl (fun σ hst => ?_))
      refine ⟨aY, ?_⟩
      refine wQ 1 rfl (ba (ad (aB ?_)))
      exact bm rfl rfl (hst.get 0 rfl) (m := 5) (by kernel_rfl) rfl rfl ⟨by rw [show fA g _ = some _ from by show (g.threads[tm]?).bind _ = _; rw [hx49]; exact hx63]; rfl, hst.pop.pop.pop⟩
theorem vY {G : Cx} (hG : Plain G) {K : KP} (e : cS) (n : Int) {σ : av} {L : Own} (hst : St σ K L) : a7 Tryz.prog G 74 [.agg (ints e.ints), .int .i64 n] σ fun v σ' => v = .bool (dp e n) ∧ St σ' K L := by
 refine a8 hG Tryz.func74 rfl (t := (PT.leaf.put (some (.agg (ints e.ints))) 0).put (some (.int .i64 n)) 1) (by rfl) (aj (ah rfl (bp hst rfl (cU rfl rfl) (fun _ => rfl) (fun σ b1 hst => ?_))))
 refine vQ 1 rfl (nT (aj (aj (ah rfl (aa rfl (Iz 0 rfl) rfl (aa rfl (Ia rfl (hst.get 0 rfl) rfl) rfl (vQ 1 rfl (aL rfl (al rfl) (fun _ => rfl) (fun h8 => ?_) (fun h8 => ?_)))))))))
 ·refine vQ 14 rfl (nT (aC rfl (aj (ah rfl (vQ 1 rfl (nT (aB (au (?_)))))))))
  exact ay rfl rfl ⟨congrArg AV.bool (by unfold dp bf; simp only [h8, cond_true, cond_false]), hst.pop⟩
 ·refine aa rfl (Iz 0 rfl) rfl (aa rfl (Ia rfl (hst.get 0 rfl) rfl) rfl (vQ 2 rfl (aL rfl (al rfl) (fun _ => rfl) (fun h13 => ?_) (fun h13 => ?_))))
  ·refine vQ 9 rfl (nT (aC rfl (aj (ah rfl (vQ 1 rfl (nT (aB (au (?_)))))))))
   exact ay rfl rfl ⟨congrArg AV.bool (by unfold dp bf; simp only [h8, h13, cond_true, cond_false]), hst.pop⟩
  ·refine aa rfl (Iz 2 rfl) rfl (aa rfl (Ia rfl (hst.get 0 rfl) rfl) rfl (vQ 2 rfl (aL rfl (al rfl) (fun _ => rfl) (fun h18 => ?_) (fun h18 => ?_))))
   ·refine vQ 4 rfl (nT (aC rfl (aj (ah rfl (vQ 1 rfl (nT (aB (au (?_)))))))))
    exact ay rfl rfl ⟨congrArg AV.bool (by unfold dp bf; simp only [h8, h13, h18, cond_true, cond_false]), hst.pop⟩
   ·refine aa rfl (Iz 2 rfl) rfl (aa rfl (Ia rfl (hst.get 0 rfl) rfl) rfl (vQ 2 rfl (nT (aE rfl (fun h22 => ?_) (fun h22 => ?_)))))
    ·refine aj (ah rfl (vQ 1 rfl (nT (aB (au (?_))))))
     exact ay rfl rfl ⟨congrArg AV.bool (by unfold dp bf; simp only [h8, h13, h18, h22, cond_true, cond_false]), hst.pop⟩
    ·refine aF (ad (aj (aj (ah rfl (aa rfl (IC rfl (hst.get 0 rfl) (n := 5) (vs := [_, _, _, _, _]) rfl) rfl (a9 rfl (It rfl rfl rfl) (fun _ => rfl) (AN hG _ hst) (fun σ hst => ?_)))))))
     refine aa rfl (dI rfl) rfl (aL rfl (al rfl) (fun _ => rfl) (fun h26 => ?_) (fun h26 => ?_))
     ·refine aa rfl (Iz 3 rfl) rfl (aa rfl (Ia rfl (hst.get 0 rfl) rfl) rfl (vQ 2 rfl (aL rfl (al rfl) (fun _ => rfl) (fun h31 => ?_) (fun h31 => ?_))))
      ·refine vQ 9 rfl (nT (aC rfl (aj (ah rfl (vQ 1 rfl (nT (aB (au (?_)))))))))
       exact ay rfl rfl ⟨congrArg AV.bool (by unfold dp bf; simp only [h8, h13, h18, h22, h26, h31, cond_true, cond_false]), hst.pop⟩
      ·refine aa rfl (IC rfl (hst.get 0 rfl) (n := 5) (vs := [_, _, _, _, _]) rfl) rfl (a9 rfl (It rfl rfl rfl) (fun _ => rfl) (gn hG _ hst) (fun σ hst => ?_))
       refine aa rfl (dI rfl) rfl (aL rfl (al rfl) (fun _ => rfl) (fun h35 => ?_) (fun h35 => ?_))
       ·refine aa rfl (Iz 4 rfl) rfl (aa rfl (Ia rfl (hst.get 0 rfl) rfl) rfl (vQ 3 rfl (nT (aE rfl (fun h40 => ?_) (fun h40 => ?_)))))
        ·refine aj (ah rfl (vQ 1 rfl (nT (aB (au (?_))))))
         exact ay rfl rfl ⟨congrArg AV.bool (by unfold dp bf; simp only [h8, h13, h18, h22, h26, h31, h35, h40, cond_true, cond_false]), hst.pop⟩
        ·refine aF (ad (aj (aj (ah rfl (aa rfl (Iz 0 rfl) rfl (aa rfl (Ia rfl (hst.get 0 rfl) rfl) rfl (vQ 1 rfl (nT (aE rfl (fun h43 => ?_) (fun h43 => ?_))))))))))
         ·refine aj (ah rfl (aa rfl (Iz 1 rfl) rfl (aa rfl (Ia rfl (hst.get 0 rfl) rfl) rfl (vQ 2 rfl (nT (aB (au (?_))))))))
          exact ay rfl rfl ⟨congrArg AV.bool (by unfold dp bf; simp only [h8, h13, h18, h22, h26, h31, h35, h40, h43, cond_true, cond_false]), hst.pop⟩
         ·refine aF (ad (aj (ah rfl (aa rfl (Iz 1 rfl) rfl (aa rfl (Ia rfl (hst.get 0 rfl) rfl) rfl (vQ 1 rfl (aL rfl (al rfl) (fun _ => rfl) (fun h50 => ?_) (fun h50 => ?_))))))))
          ·refine aa rfl (Iz 1 rfl) rfl (aa rfl (Ia rfl (hst.get 0 rfl) rfl) rfl (vQ 4 rfl (nT (aB ?_))))
           exact ay rfl rfl ⟨congrArg AV.bool (by unfold dp bf; simp only [h8, h13, h18, h22, h26, h31, h35, h40, h43, h50, cond_true, cond_false]), hst.pop⟩
          ·refine vQ 6 rfl (nT (aB ?_))
           exact ay rfl rfl ⟨congrArg AV.bool (by unfold dp bf; simp only [h8, h13, h18, h22, h26, h31, h35, h40, h43, h50, cond_true, cond_false]), hst.pop⟩
       ·refine vQ 5 rfl (nT (aI rfl (aF (ad (aj (aj (ah rfl (aa rfl (Iz 0 rfl) rfl (aa rfl (Ia rfl (hst.get 0 rfl) rfl) rfl (vQ 1 rfl (af (ad ?_))))))))))))
        refine aE rfl (fun h43 => ?_) (fun h43 => ?_)
        ·refine aj (ah rfl (aa rfl (Iz 1 rfl) rfl (aa rfl (Ia rfl (hst.get 0 rfl) rfl) rfl (vQ 2 rfl (nT (aB (au (?_))))))))
         exact ay rfl rfl ⟨congrArg AV.bool (by unfold dp bf; simp only [h8, h13, h18, h22, h26, h31, h35, h43, cond_true, cond_false]), hst.pop⟩
        ·refine aF (ad (aj (ah rfl (aa rfl (Iz 1 rfl) rfl (aa rfl (Ia rfl (hst.get 0 rfl) rfl) rfl (vQ 1 rfl (aL rfl (al rfl) (fun _ => rfl) (fun h50 => ?_) (fun h50 => ?_))))))))
         ·refine aa rfl (Iz 1 rfl) rfl (aa rfl (Ia rfl (hst.get 0 rfl) rfl) rfl (vQ 4 rfl (nT (aB ?_))))
          exact ay rfl rfl ⟨congrArg AV.bool (by unfold dp bf; simp only [h8, h13, h18, h22, h26, h31, h35, h43, h50, cond_true, cond_false]), hst.pop⟩
         ·refine vQ 6 rfl (nT (aB ?_))
          exact ay rfl rfl ⟨congrArg AV.bool (by unfold dp bf; simp only [h8, h13, h18, h22, h26, h31, h35, h43, h50, cond_true, cond_false]), hst.pop⟩
     ·refine vQ 5 rfl (aa rfl (IC rfl (hst.get 0 rfl) (n := 5) (vs := [_, _, _, _, _]) rfl) rfl (a9 rfl (It rfl rfl rfl) (fun _ => rfl) (gn hG _ hst) (fun σ hst => ?_)))
      refine aa rfl (dI rfl) rfl (aL rfl (al rfl) (fun _ => rfl) (fun h35 => ?_) (fun h35 => ?_))
      ·refine aa rfl (Iz 4 rfl) rfl (aa rfl (Ia rfl (hst.get 0 rfl) rfl) rfl (vQ 3 rfl (nT (aE rfl (fun h40 => ?_) (fun h40 => ?_)))))
       ·refine aj (ah rfl (vQ 1 rfl (nT (aB (au (?_))))))
        exact ay rfl rfl ⟨congrArg AV.bool (by unfold dp bf; simp only [h8, h13, h18, h22, h26, h35, h40, cond_true, cond_false]), hst.pop⟩
       ·refine aF (ad (aj (aj (ah rfl (aa rfl (Iz 0 rfl) rfl (aa rfl (Ia rfl (hst.get 0 rfl) rfl) rfl (vQ 1 rfl (nT (aE rfl (fun h43 => ?_) (fun h43 => ?_))))))))))
        ·refine aj (ah rfl (aa rfl (Iz 1 rfl) rfl (aa rfl (Ia rfl (hst.get 0 rfl) rfl) rfl (vQ 2 rfl (nT (aB (au (?_))))))))
         exact ay rfl rfl ⟨congrArg AV.bool (by unfold dp bf; simp only [h8, h13, h18, h22, h26, h35, h40, h43, cond_true, cond_false]), hst.pop⟩
        ·refine aF (ad (aj (ah rfl (aa rfl (Iz 1 rfl) rfl (aa rfl (Ia rfl (hst.get 0 rfl) rfl) rfl (vQ 1 rfl (aL rfl (al rfl) (fun _ => rfl) (fun h50 => ?_) (fun h50 => ?_))))))))
         ·refine aa rfl (Iz 1 rfl) rfl (aa rfl (Ia rfl (hst.get 0 rfl) rfl) rfl (vQ 4 rfl (nT (aB ?_))))
          exact ay rfl rfl ⟨congrArg AV.bool (by unfold dp bf; simp only [h8, h13, h18, h22, h26, h35, h40, h43, h50, cond_true, cond_false]), hst.pop⟩
         ·refine vQ 6 rfl (nT (aB ?_))
          exact ay rfl rfl ⟨congrArg AV.bool (by unfold dp bf; simp only [h8, h13, h18, h22, h26, h35, h40, h43, h50, cond_true, cond_false]), hst.pop⟩
      ·refine vQ 5 rfl (nT (aI rfl (aF (ad (aj (aj (ah rfl (aa rfl (Iz 0 rfl) rfl (aa rfl (Ia rfl (hst.get 0 rfl) rfl) rfl (vQ 1 rfl (af (ad ?_))))))))))))
       refine aE rfl (fun h43 => ?_) (fun h43 => ?_)
       ·refine aj (ah rfl (aa rfl (Iz 1 rfl) rfl (aa rfl (Ia rfl (hst.get 0 rfl) rfl) rfl (vQ 2 rfl (nT (aB (au (?_))))))))
        exact ay rfl rfl ⟨congrArg AV.bool (by unfold dp bf; simp only [h8, h13, h18, h22, h26, h35, h43, cond_true, cond_false]), hst.pop⟩
       ·refine aF (ad (aj (ah rfl (aa rfl (Iz 1 rfl) rfl (aa rfl (Ia rfl (hst.get 0 rfl) rfl) rfl (vQ 1 rfl (aL rfl (al rfl) (fun _ => rfl) (fun h50 => ?_) (fun h50 => ?_))))))))
        ·refine aa rfl (Iz 1 rfl) rfl (aa rfl (Ia rfl (hst.get 0 rfl) rfl) rfl (vQ 4 rfl (nT (aB ?_))))
         exact ay rfl rfl ⟨congrArg AV.bool (by unfold dp bf; simp only [h8, h13, h18, h22, h26, h35, h43, h50, cond_true, cond_false]), hst.pop⟩
        ·refine vQ 6 rfl (nT (aB ?_))
         exact ay rfl rfl ⟨congrArg AV.bool (by unfold dp bf; simp only [h8, h13, h18, h22, h26, h35, h43, h50, cond_true, cond_false]), hst.pop⟩
theorem xX {G : Cx} (hG : Plain G) {K : KP} {g : XG} {a b c d : AV} (h : eX K g a b c d) (th ix fth fix_ : Int) {σ : av} {L : Own} (hst : St σ K L) : a7 Tryz.prog G 75 [.agg [a, b, c, d], .agg [.int .i64 th, .int .i64 ix], .agg [.int .i64 fth, .int .i64 fix_]] σ fun v σ' => v = .bool (fy g ⟨th, ix⟩ ⟨fth, fix_⟩) ∧ St σ' K L := by
 have h' := h; obtain ⟨hi, ht, hf, ho⟩ := h'
 refine a8 hG Tryz.func75 rfl (t := ((PT.leaf.put (some (.agg [a, b, c, d])) 0).put (some (.agg [.int .i64 th, .int .i64 ix])) 1).put (some (.agg [.int .i64 fth, .int .i64 fix_])) 2) (by rfl) (aj (ah rfl (bp hst rfl (cU rfl rfl) (fun _ => rfl) (fun σ b1 hst => ?_))))
 refine bp hst rfl (cU rfl rfl) (fun _ => rfl) (fun σ b2 hst => ?_)
 refine bp hst rfl (cU rfl rfl) (fun _ => rfl) (fun σ b3 hst => ?_)
 refine vQ 1 rfl (nS rfl (aa rfl (IC rfl (hst.get 2 rfl) (n := 4) (vs := [_, _, _, _]) rfl) rfl (aa rfl (IC rfl (hst.get 1 rfl) (n := 2) (vs := [_, _]) rfl) rfl (a9 rfl (It rfl rfl rfl) (fun _ => rfl) (wz hG h _ _ hst) (fun σ hst => ?_)))))
 refine vQ 3 rfl (bp hst rfl (Ix (cs := [.int .i64 0, .int .i64 0, .int .i64 0, .int .i64 0, .int .i64 0])) (fun _ => rfl) (fun σ b4 hst => ?_))
 refine bA hst rfl (Io rfl rfl rfl (hst.get 0 rfl) (m := 5) rfl rfl (cells' := [_, _, _, _, _]) rfl) rfl (fun σ hst => ?_)
 refine vQ 1 rfl (nT (aj (aj (ah rfl (aa rfl (IC rfl (hst.get 0 rfl) (n := 5) (vs := [_, _, _, _, _]) rfl) rfl (a9 rfl (It rfl rfl rfl) (fun _ => rfl) (AN hG _ hst) (fun σ hst => ?_)))))))
 refine aa rfl (dI rfl) rfl (nT (aE rfl (fun h19 => ?_) (fun h19 => ?_)))
 ·refine aj (ah rfl (aa rfl (IC rfl (hst.get 1 rfl) (n := 2) (vs := [_, _]) rfl) rfl (aa rfl (Is (places := [(0, 1), (1, 1)]) (zero := [.int .i64 0, .int .i64 0]) (cs := [_, _]) rfl) rfl (aa rfl (Ho (n := 2) (ca := [_, _]) (cb := [_, _]) (by kernel_rfl) rfl rfl rfl rfl) rfl (vQ 1 rfl (nT (aB (au (?_)))))))))
  exact ay rfl rfl ⟨congrArg AV.bool (by unfold fy; simp only [h19, cond_true, cond_false]), hst.pop.pop.pop.pop⟩
 ·refine aF (ad (aj (ah rfl (aa rfl (IC rfl (hst.get 3 rfl) (n := 4) (vs := [_, _, _, _]) rfl) rfl (aa rfl (IC rfl (hst.get 1 rfl) (n := 2) (vs := [_, _]) rfl) rfl (a9 rfl (It rfl rfl rfl) (fun _ => rfl) (wz hG h _ _ hst) (fun σ hst => ?_)))))))
  refine vQ 3 rfl (bp hst rfl (Ix (cs := [.int .i64 0, .int .i64 0, .int .i64 0, .int .i64 0, .int .i64 0])) (fun _ => rfl) (fun σ b5 hst => ?_))
  refine bA hst rfl (Io rfl rfl rfl (hst.get 0 rfl) (m := 5) rfl rfl (cells' := [_, _, _, _, _]) rfl) rfl (fun σ hst => ?_)
  refine vQ 1 rfl (nS rfl (vQ 1 rfl (aL rfl (al rfl) (fun _ => rfl) (fun h30 => ?_) (fun h30 => ?_))))
  ·refine aa rfl (IC rfl (hst.get 2 rfl) (n := 2) (vs := [_, _]) rfl) rfl (aa rfl (IC rfl (hst.get 3 rfl) (n := 2) (vs := [_, _]) rfl) rfl (aa rfl (Ai (n := 2) (ca := [_, _]) (cb := [_, _]) (by kernel_rfl) rfl rfl rfl rfl) rfl (vQ 1 rfl (aL rfl (al rfl) (fun _ => rfl) (fun h35 => ?_) (fun h35 => ?_)))))
   ·refine aa rfl (IC rfl (hst.get 0 rfl) (n := 5) (vs := [_, _, _, _, _]) rfl) rfl (a9 rfl (It rfl rfl rfl) (fun _ => rfl) (gn hG _ hst) (fun σ hst => ?_))
    refine vQ 1 rfl (aL rfl (al rfl) (fun _ => rfl) (fun h39 => ?_) (fun h39 => ?_))
    ·refine aa rfl (Iz 1 rfl) rfl (aa rfl (Ia rfl (hst.get 0 rfl) rfl) rfl (aa rfl (Iz 1 rfl) rfl (aa rfl (Ia rfl (hst.get 1 rfl) rfl) rfl (vQ 2 rfl (aL rfl (al rfl) (fun _ => rfl) (fun h46 => ?_) (fun h46 => ?_))))))
     ·refine aa rfl (Iz 4 rfl) rfl (aa rfl (Ia rfl (hst.get 0 rfl) rfl) rfl (aa rfl (Iz 3 rfl) rfl (aa rfl (Ia rfl (hst.get 1 rfl) rfl) rfl (vQ 3 rfl (nT (aB ?_))))))
      exact ay rfl rfl ⟨congrArg AV.bool (by unfold fy; simp only [h19, h30, h35, h39, h46, cond_true, cond_false]), hst.pop.pop.pop.pop.pop⟩
     ·refine vQ 7 rfl (nT (aB ?_))
      exact ay rfl rfl ⟨congrArg AV.bool (by unfold fy; simp only [h19, h30, h35, h39, h46, cond_true, cond_false]), hst.pop.pop.pop.pop.pop⟩
    ·refine vQ 14 rfl (nT (aB ?_))
     exact ay rfl rfl ⟨congrArg AV.bool (by unfold fy; simp only [h19, h30, h35, h39, cond_true, cond_false]), hst.pop.pop.pop.pop.pop⟩
   ·refine vQ 18 rfl (nT (aB ?_))
    exact ay rfl rfl ⟨congrArg AV.bool (by unfold fy; simp only [h19, h30, h35, cond_true, cond_false]), hst.pop.pop.pop.pop.pop⟩
  ·refine vQ 23 rfl (nT (aB ?_))
   exact ay rfl rfl ⟨congrArg AV.bool (by unfold fy; simp only [h19, h30, cond_true, cond_false]), hst.pop.pop.pop.pop.pop⟩
theorem rI : zq Tryz.prog 165 67 3 2 := ⟨by kernel_rfl, by kernel_rfl, by kernel_rfl, by kernel_rfl, fun k hk => by
 match k, hk with
 | [a, b], _ =>
  show jP Tryz.prog 67 (.agg (ints [a, b])) = true
  kernel_rfl⟩
theorem E6 {ls : List (List cW)} {m1 m m0 : LM} {i i2 : Nat} {l : List cW} {x : cW} (h1 : kz ls 0 m1 = kz (ls.drop i) i m0) (hx : ls[i]? = some l) (h2 : ja i l m0 = ja i (l.drop i2) m) (hy : l[i2]? = some x) (h : (eu m x.ints).isSome = false) : kz ls 0 m1 = none := by
 rw [h1, bV hx]
 show (ja i l m0).bind _ = none
 rw [h2, bV hy]
 show (bif (eu m x.ints).isSome then _ else none).bind _ = none
 rw [h]; rfl
theorem EU {ls : List (List cW)} {m1 m m0 : LM} {i i2 : Nat} {l : List cW} {x : cW} (h1 : kz ls 0 m1 = kz (ls.drop i) i m0) (hx : ls[i]? = some l) (h2 : ja i l m0 = ja i (l.drop i2) m) (hy : l[i2]? = some x) (h : (eu m x.ints).isSome = true) (h' : bk ((eu m x.ints).getD 0) (.ofNat i) = false) : kz ls 0 m1 = none := by
 rw [h1, bV hx]
 show (ja i l m0).bind _ = none
 rw [h2, bV hy]
 show (bif (eu m x.ints).isSome then (bif bk ((eu m x.ints).getD 0) (.ofNat i) then _ else none) else none).bind _ = none
 rw [h, h']; rfl
theorem v9 {G : Cx} (hG : Plain G) {K : KP} {g : XG} {a b c d : AV} (h : eX K g a b c d) {σ : av} {L : Own} (hst : St σ K L) : a7 Tryz.prog G 76 [.agg [a, b, c, d]] σ fun v σ' => v = .bool (dF g) ∧ St σ' K L := by
 have h' := h; obtain ⟨hi, ht, hf, ho⟩ := h'
 refine a8 hG Tryz.func76 rfl (t := PT.leaf.put (some (.agg [a, b, c, d])) 0) (by rfl) (aj (ah rfl (bp hst rfl (cU rfl rfl) (fun _ => rfl) (fun σ b1 hst => ?_))))
 refine vQ 1 rfl (nS rfl (G6 hst rfl BF (fun _ => rfl) (fun σ b2 hst => ?_)))
 refine vQ 1 rfl (nT (aj (aj (ah rfl (aa rfl (Iz 1 rfl) rfl (aa rfl (Ia rfl (hst.get 1 rfl) rfl) rfl (aa rfl (H9 ht rfl rfl rfl (e := 57) rfl) rfl (vQ 1 rfl (nT (aP (bu [4, 5, 6, 7, 18, 19, 20, 21, 22, 23, 24, 25, 26, 27, 28, 29, 30, 31, 32, 33, 34, 35, 36, 37, 38, 39, 40] (fun j t σ => ∃ (i : Nat) (es : List dV) (ck : Nat) (m : LM), j + i = g.threads.length ∧ dW 2 es m ∧ mq g.threads 0 [] = mq (g.threads.drop i) i m ∧ t.get 18 = some (.int .i64 (.ofNat i)) ∧ St σ K ((b2, .map es ck) :: (b1, .row [a, b, c, d] 26 false) :: L)) (g.threads.length) ⟨0, [], 0, [], rfl, .nil, rfl, rfl, hst⟩ ?_)))))))))))
 clear hst; intro j3 t σ ar hI; obtain ⟨i, es, ck, m, hj3, hm, he3, hv18, hst⟩ := hI
 obtain ⟨o4, o5, o6, o7, o18, o19, o20, o21, o22, o23, o24, o25, o26, o27, o28, o29, ar⟩ := ar.HE rfl rfl rfl rfl
 replace ar := ar.dC rfl rfl; obtain ⟨o30, o31, o32, o33, o34, o35, o36, o37, ar⟩ := ar
 replace ar := ar.fD rfl; obtain ⟨o38, ar⟩ := ar
 replace ar := ar.fD rfl; obtain ⟨o39, ar⟩ := ar
 replace ar := ar.fD rfl; obtain ⟨o40, ar⟩ := ar
 obtain rfl := ar.nil; clear ar
 replace hv18 : o18 = some _ := hv18; subst hv18
 refine aj (ah rfl (vQ 1 rfl (nT (aj (aE rfl (fun h19 => ?_) (fun h19 => ?_))))))
 ·refine aF (ad (aj (aP (aj (ah rfl (vQ 1 rfl ?_))))))
  obtain ⟨x21, hx21, hi21⟩ := dv h19
  refine Ib (e := 57) (m := 1) ht hx21 rfl rfl rfl rfl (fun _ => rfl) (fun p21 vs21 hp21 hl21 hr21 => ?_)
  have hr21' := hr21; obtain ⟨v21, rfl, hk21⟩ := hr21'
  refine aa rfl (Ih hst hp21 rfl rfl) rfl (vQ 2 rfl (nS rfl (vQ 1 rfl (aa rfl (H9 hk21 rfl rfl rfl (e := 56) rfl) rfl (vQ 1 rfl ?_)))))
  generalize hm0 : m = m0 at hm he3; clear hm0
  refine nT (aP (bu [6, 7, 25, 26, 27, 28, 29, 30, 31, 32, 33, 34, 35, 36, 37, 38, 39] (fun j t σ => ∃ (i2 : Nat) (es : List dV) (ck : Nat) (m : LM), j + i2 = x21.length ∧ dW 2 es m ∧ nL i x21 0 m0 = nL i (x21.drop i2) i2 m ∧ t.get 25 = some (.int .i64 (.ofNat i2)) ∧ St σ K ((b2, .map es ck) :: (b1, .row [a, b, c, d] 26 false) :: L)) (x21.length) ⟨0, es, ck, m0, rfl, hm, rfl, rfl, hst⟩ ?_))
  clear hst; intro j6 t σ ar hI; obtain ⟨i2, es, ck, m, hj6, hm, he6, hv25, hst⟩ := hI
  obtain ⟨o6, o7, o25, o26, o27, o28, o29, o30, o31, o32, o33, o34, o35, o36, o37, o38, ar⟩ := ar.HE rfl rfl rfl rfl
  replace ar := ar.fD rfl; obtain ⟨o39, ar⟩ := ar
  obtain rfl := ar.nil; clear ar
  replace hv25 : o25 = some _ := hv25; subst hv25
  refine aj (ah rfl (vQ 1 rfl (nT (aj (aE rfl (fun h26 => ?_) (fun h26 => ?_))))))
  ·refine aF (ad (aj (aP (aj (ah rfl (vQ 1 rfl ?_))))))
   obtain ⟨x28, hx28, hi28⟩ := dv h26
   refine Ib (e := 56) (m := 5) hk21 hx28 rfl rfl rfl rfl (fun _ => rfl) (fun p28 vs28 hp28 hl28 hr28 => ?_)
   obtain rfl := hr28
   refine aa rfl (cr hst hp28 rfl (by kernel_rfl) rfl) rfl (bp hst rfl (Ix (cs := [.int .i64 0, .int .i64 0, .int .i64 0, .int .i64 0, .int .i64 0])) (fun _ => rfl) (fun σ b3 hst => ?_))
   refine vQ 1 rfl (bA hst rfl (Io rfl rfl rfl (hst.get 0 rfl) (m := 5) rfl rfl (cells' := [_, _, _, _, _]) rfl) rfl (fun σ hst => ?_))
   refine nS rfl (aa rfl (IC rfl (hst.get 0 rfl) (n := 5) (vs := [_, _, _, _, _]) rfl) rfl (a9 rfl (It rfl rfl rfl) (fun _ => rfl) (gn hG _ hst) (fun σ hst => ?_)))
   refine nT (aE rfl (fun h31 => ?_) (fun h31 => ?_))
   ·refine ah rfl (vQ 4 rfl (aa rfl (Is (places := [(0, 1), (1, 1)]) (zero := [.int .i64 0, .int .i64 0]) (cs := [_, _]) rfl) rfl (aa rfl (Iz 1 rfl) rfl (aa rfl (Ia rfl (hst.get 0 rfl) rfl) rfl (Bn rI hm hst (k := [_, _]) rfl rfl rfl rfl rfl rfl rfl (fun σ es ck hst hm => ?_))))))
    replace hm := (show dW 2 es (mA m [Int.ofNat (i + 1), Int.ofNat i2] x28.loc) from by rw [← bg (i := i) (by have := ht.bG; omega)]; exact hm)
    refine af (aK (ad (ah rfl (vQ 2 rfl (af ?_)))))
    have hst := hst.pop
    refine aQ ⟨j6 - 1, by omega, (by (iterate 34 refine bq.put rfl ?_); exact bq.refl _ _), i2 + 1, es, ck, _, by omega, hm, by rw [he6, bV hx28]; show nL i _ (i2 + 1) (rR i m i2 x28) = _; unfold rR; rw [h31]; rfl, congrArg (fun z => some (AV.int .i64 z)) (bg (by have := hk21.bG; omega)), hst⟩
   ·refine aF (aK (ad (ah rfl (vQ 2 rfl (af ?_)))))
    have hst := hst.pop
    refine aQ ⟨j6 - 1, by omega, (by (iterate 27 refine bq.put rfl ?_); exact bq.refl _ _), i2 + 1, es, ck, _, by omega, hm, by rw [he6, bV hx28]; show nL i _ (i2 + 1) (rR i m i2 x28) = _; unfold rR; rw [h31]; rfl, congrArg (fun z => some (AV.int .i64 z)) (bg (by have := hk21.bG; omega)), hst⟩
  ·refine bz (aZ (bc (aU (aK (ad (ah rfl (vQ 2 rfl (af (aQ ⟨j3 - 1, by omega, (by (iterate 56 refine bq.put rfl ?_); exact bq.refl _ _), i + 1, es, ck, m, by omega, hm, by rw [he3, bV hx21]; show mq _ (i + 1) (nL i x21 0 m0) = _; rw [he6, eD (bn h26)]; rfl, congrArg (fun z => some (AV.int .i64 z)) (bg (by have := ht.bG; omega)), hst⟩)))))))))
 ·refine bz (aZ (bc (aU (ad (aj (aj (ah rfl (aa rfl (Iz 3 rfl) rfl (aa rfl (Ia rfl (hst.get 1 rfl) rfl) rfl (aa rfl (H9 ho rfl rfl rfl (e := 74) rfl) rfl (vQ 1 rfl ?_)))))))))))
  have hm1 : mq g.threads 0 [] = m := by rw [he3, eD (bn h19)]; rfl
  generalize hmm : m = m1 at hm hm1; clear hmm
  refine nT (aP (bu [2, 8, 9, 11, 12, 13, 44, 45, 46, 47, 48, 49, 50, 51, 52, 53, 54, 55, 56, 57, 58, 59, 60, 61, 62, 63, 64, 65, 66, 67, 68, 69, 70, 71] (fun j t σ => ∃ (i : Nat) (es : List dV) (ck : Nat) (m : LM), j + i = g.order.length ∧ dW 2 es m ∧ kz g.order 0 m1 = kz (g.order.drop i) i m ∧ t.get 44 = some (.int .i64 (.ofNat i)) ∧ St σ K ((b2, .map es ck) :: (b1, .row [a, b, c, d] 26 false) :: L)) (g.order.length) ⟨0, es, ck, m1, rfl, hm, rfl, rfl, hst⟩ ?_))
  clear hst; intro j13 t σ ar hI; obtain ⟨i, es, ck, m, hj13, hm, he13, hv44, hst⟩ := hI
  obtain ⟨o2, o8, o9, o11, o12, o13, o44, o45, o46, o47, o48, o49, o50, o51, o52, o53, ar⟩ := ar.HE rfl rfl rfl rfl
  obtain ⟨o54, o55, o56, o57, o58, o59, o60, o61, o62, o63, o64, o65, o66, o67, o68, o69, ar⟩ := ar.HE rfl rfl rfl rfl
  replace ar := ar.fD rfl; obtain ⟨o70, ar⟩ := ar
  replace ar := ar.fD rfl; obtain ⟨o71, ar⟩ := ar
  obtain rfl := ar.nil; clear ar
  replace hv44 : o44 = some _ := hv44; subst hv44
  refine aj (ah rfl (vQ 1 rfl (nT (aj (aE rfl (fun h45 => ?_) (fun h45 => ?_))))))
  ·refine aF (ad (aj (aP (aj (ah rfl (vQ 1 rfl ?_))))))
   obtain ⟨x47, hx47, hi47⟩ := dv h45
   refine Ib (e := 74) (m := 1) ho hx47 rfl rfl rfl rfl (fun _ => rfl) (fun p47 vs47 hp47 hl47 hr47 => ?_)
   have hr47' := hr47; obtain ⟨v47, rfl, hk47⟩ := hr47'
   refine aa rfl (Ih hst hp47 rfl rfl) rfl (vQ 2 rfl (nS rfl (vQ 1 rfl (aa rfl (H9 hk47 rfl rfl rfl (e := 67) rfl) rfl (vQ 1 rfl ?_)))))
   generalize hm0 : m = m0 at hm he13; clear hm0
   refine nT (aP (bu [2, 11, 12, 13, 51, 52, 53, 54, 55, 56, 57, 58, 59, 60, 61, 62, 63, 64, 65, 66, 67, 68, 69, 70] (fun j t σ => ∃ (i2 : Nat) (es : List dV) (ck : Nat) (m : LM), j + i2 = x47.length ∧ dW 2 es m ∧ ja i x47 m0 = ja i (x47.drop i2) m ∧ t.get 51 = some (.int .i64 (.ofNat i2)) ∧ St σ K ((b2, .map es ck) :: (b1, .row [a, b, c, d] 26 false) :: L)) (x47.length) ⟨0, es, ck, m0, rfl, hm, rfl, rfl, hst⟩ ?_))
   clear hst; intro j16 t σ ar hI; obtain ⟨i2, es, ck, m, hj16, hm, he16, hv51, hst⟩ := hI
   obtain ⟨o2, o11, o12, o13, o51, o52, o53, o54, o55, o56, o57, o58, o59, o60, o61, o62, ar⟩ := ar.HE rfl rfl rfl rfl
   replace ar := ar.dC rfl rfl; obtain ⟨o63, o64, o65, o66, o67, o68, o69, o70, ar⟩ := ar
   obtain rfl := ar.nil; clear ar
   replace hv51 : o51 = some _ := hv51; subst hv51
   refine aj (ah rfl (vQ 1 rfl (nT (aj (aE rfl (fun h52 => ?_) (fun h52 => ?_))))))
   ·refine aF (ad (aj (aP (aj (ah rfl ?_)))))
    obtain ⟨x53, hx53, hi53⟩ := dv h52
    refine Ib (e := 67) (m := 2) hk47 hx53 rfl rfl rfl rfl (fun _ => rfl) (fun p53 vs53 hp53 hl53 hr53 => ?_)
    obtain rfl := hr53
    refine aa rfl (cr hst hp53 rfl (by kernel_rfl) rfl) rfl (bp hst rfl (Ix (cs := [.int .i64 0, .int .i64 0])) (fun _ => rfl) (fun σ b3 hst => ?_))
    refine bA hst rfl (Io rfl rfl rfl (hst.get 0 rfl) (m := 2) rfl rfl (cells' := [_, _]) rfl) rfl (fun σ hst => ?_)
    refine nT (aj (aj (ah rfl (vQ 1 rfl (aa rfl (IC rfl (hst.get 0 rfl) (n := 2) (vs := [_, _]) rfl) rfl (aa rfl (Cj rI hm (hst.get 1 rfl) (k := [_, _]) rfl rfl rfl) rfl (vQ 5 rfl (nS rfl (vQ 1 rfl ?_)))))))))
    refine aa rfl (dI rfl) rfl (aL rfl (al rfl) (fun _ => rfl) (fun h63 => ?_) (fun h63 => ?_))
    ·refine vQ 4 rfl (nT (aC rfl (aj (ah rfl (vQ 1 rfl (nT (aB (au (aD (au (bx (aD (aD (au (bx (aD (au (?_))))))))))))))))))
     exact ay rfl rfl ⟨congrArg AV.bool (by unfold dF; rw [show kz g.order 0 (mq g.threads 0 []) = none from by rw [hm1]; exact E6 he13 hx47 he16 hx53 (mn h63)]), hst.pop.pop.pop⟩
    ·refine vQ 4 rfl (nT (aE rfl (fun h67 => ?_) (fun h67 => ?_)))
     ·refine aj (ah rfl (vQ 1 rfl (nT (aB (au (aD (au (bx (aD (aD (au (bx (aD (au (?_)))))))))))))))
      exact ay rfl rfl ⟨congrArg AV.bool (by unfold dF; rw [show kz g.order 0 (mq g.threads 0 []) = none from by rw [hm1]; exact EU he13 hx47 he16 hx53 (fY h63) (bM h67)]), hst.pop.pop.pop⟩
     ·refine aF (ad (ah rfl (vQ 1 rfl (aa rfl (IC rfl (hst.get 0 rfl) (n := 2) (vs := [_, _]) rfl) rfl (Cb rI hm hst (k := [_, _]) rfl rfl rfl rfl rfl rfl rfl rfl rfl (fun σ es hst hm => ?_))))))
      refine af (aK (ad (ah rfl (vQ 2 rfl (af ?_)))))
      have hst := hst.pop
      refine aQ ⟨j16 - 1, by omega, (by (iterate 47 refine bq.put rfl ?_); exact bq.refl _ _), i2 + 1, es, ck, _, by omega, hm, by rw [he16, bV hx53]; show (bif (eu m x53.ints).isSome then _ else none) = _; rw [show (eu m x53.ints).isSome = true from fY h63]; show (bif bk ((eu m x53.ints).getD 0) (Int.ofNat i) then _ else none) = _; rw [show bk ((eu m x53.ints).getD 0) (Int.ofNat i) = true from a6 h67]; rfl, congrArg (fun z => some (AV.int .i64 z)) (bg (by have := hk47.bG; omega)), hst⟩
   ·refine bz (aZ (bc (aU (aK (ad (ah rfl (vQ 2 rfl (af (aQ ⟨j13 - 1, by omega, (by (iterate 70 refine bq.put rfl ?_); exact bq.refl _ _), i + 1, es, ck, m, by omega, hm, by rw [he13, bV hx47]; show (ja i x47 m0).bind _ = _; rw [he16, eD (bn h52)]; rfl, congrArg (fun z => some (AV.int .i64 z)) (bg (by have := ho.bG; omega)), hst⟩)))))))))
  ·refine bz (aZ (bc (aU (ad (aj (ah rfl (vQ 1 rfl (aa rfl (Cw rI hm (hst.get 0 rfl) rfl rfl rfl rfl) rfl (vQ 2 rfl (nT (aB ?_)))))))))))
   exact ay rfl rfl ⟨congrArg AV.bool (by unfold dF; rw [show kz g.order 0 (mq g.threads 0 []) = some m from by rw [hm1]; exact by rw [he13, eD (bn h45)]; rfl]), hst.pop.pop⟩
theorem zi {G : Cx} (hG : Plain G) {K : KP} {l : List cS} {v : AV} (h : bC K 5 kQ l v) {σ : av} {L : Own} (hst : St σ K L) : a7 Tryz.prog G 109 [v] σ fun v σ' => v = .bool (cd 14 (.ofNat l.length)) ∧ St σ' K L := by
 refine a8 hG Tryz.func109 rfl (t := PT.leaf.put (some (v)) 0) (by rfl) (aj (ah rfl (vQ 1 rfl (nS rfl (vQ 1 rfl (aa rfl (H9 h rfl rfl rfl (e := 56) rfl) rfl (vQ 2 rfl (nT (aB ?_)))))))))
 exact ay rfl rfl ⟨rfl, hst⟩
theorem vG {G : Cx} (hG : Plain G) {K : KP} {l : List (List cS)} {v : AV} {p : List cS → Bool} (h : bC K 1 (RL K 5 kQ) l v) {σ : av} {L : Own} (hst : St σ K L)
  (hcall : ∀ x u σ L, St σ K L → RL K 5 kQ x [u] → a7 Tryz.prog G 109 [u] σ fun v σ' => v = .bool (p x) ∧ St σ' K L) : a7 Tryz.prog G 161 [v, .func 109 [] []] σ fun v σ' => v = .int .i64 (qu p l 0) ∧ St σ' K L := by
 refine a8 hG Tryz.func161 rfl (t := (PT.leaf.put (some (v)) 0).put (some (.func 109 [] [])) 1) (by rfl) (aj (ah rfl (vQ 1 rfl (nT (aj (aj (ah rfl (vQ 1 rfl (aa rfl (H9 h rfl rfl rfl (e := 57) rfl) rfl (vQ 1 rfl (af (ad ?_))))))))))))
 refine aP ?_
 obtain ⟨LL1, hst, hLL1⟩ := hst.named
 refine bu [4, 5, 8, 9, 10, 11, 12, 13, 14, 15, 16, 17, 18] (fun j t σ => ∃ (i : Nat), j + i = l.length ∧ qu p l 0 = qu p (l.drop i) i ∧ t.get 8 = some (.int .i64 (.ofNat i)) ∧ St σ K LL1) (l.length) ⟨0, rfl, rfl, rfl, hst⟩ ?_
 clear hst; intro j2 t σ ar hI; obtain ⟨i, hj, he, hv8, hst⟩ := hI
 subst hLL1
 replace ar := ar.dC rfl rfl; obtain ⟨o4, o5, o8, o9, o10, o11, o12, o13, ar⟩ := ar
 replace ar := ar.rp rfl; obtain ⟨o14, o15, o16, o17, ar⟩ := ar
 replace ar := ar.fD rfl; obtain ⟨o18, ar⟩ := ar
 obtain rfl := ar.nil; clear ar
 replace hv8 : o8 = some _ := hv8; subst hv8
 refine aj (ah rfl (vQ 1 rfl (nT (aj (aE rfl (fun h9 => ?_) (fun h9 => ?_))))))
 ·refine aF (ad (aj (aP (aj (ah rfl (vQ 2 rfl (nS rfl (vQ 3 rfl ?_))))))))
  obtain ⟨x14, hx14, hi14⟩ := dv h9
  refine Ib (e := 57) (m := 1) h hx14 rfl rfl rfl rfl (fun _ => rfl) (fun p14 vs14 hp14 hl14 hr14 => ?_)
  have hr14' := hr14; obtain ⟨v14, rfl, hk14⟩ := hr14'
  refine aa rfl (Ih hst hp14 rfl rfl) rfl (a9 rfl (It rfl rfl rfl) (fun _ => rfl) (hcall x14 _ _ _ hst hr14) (fun σ hst => ?_))
  refine nT (aE rfl (fun h16 => ?_) (fun h16 => ?_))
  ·refine aj (ah rfl (vQ 2 rfl (nT (aB (aD (au (bx (aD (au (?_))))))))))
   exact ay rfl rfl ⟨congrArg (AV.int .i64) (by symm; rw [he, bV hx14]; show (bif p x14 then _ else _) = _; rw [h16]; rfl), hst⟩
  ·refine aF (aK (ad (ah rfl (vQ 2 rfl (af (aQ ⟨j2 - 1, by omega, (by (iterate 24 refine bq.put rfl ?_); exact bq.refl _ _), i + 1, by omega, by rw [he, bV hx14]; show (bif p x14 then _ else _) = _; rw [h16]; rfl, congrArg (fun z => some (AV.int .i64 z)) (bg (by have := h.bG; omega)), hst⟩))))))
 ·refine bz (aZ (bc (aU (ad (aj (ah rfl (vQ 1 rfl (nT (aB ?_)))))))))
  exact ay rfl rfl ⟨congrArg (AV.int .i64) (by symm; rw [he, eD (bn h9)]; rfl), hst⟩
theorem rm {G : Cx} (hG : Plain G) {K : KP} {l : List (List cS)} {v : AV} (h : bC K 1 (RL K 5 kQ) l v) {σ : av} {L : Own} (hst : St σ K L) : a7 Tryz.prog G 108 [v, .func 109 [] []] σ fun v σ' => v = .bool (l.any fun x => cd 14 (.ofNat x.length)) ∧ St σ' K L := by
 refine a8 hG Tryz.func108 rfl (t := (PT.leaf.put (some (v)) 0).put (some (.func 109 [] [])) 1) (by rfl) (aj (ah rfl (vQ 1 rfl (nS rfl (vQ 2 rfl (a9 rfl (It rfl rfl rfl) (fun _ => rfl) (vG hG h hst (p := fun x => cd 14 (.ofNat x.length)) fun x u σ L hst hr => by obtain ⟨w, hw, hk⟩ := hr; cases hw; exact zi hG hk hst) (fun σ hst => ?_)))))))
 refine vQ 2 rfl (nT (aB ?_))
 exact ay rfl rfl ⟨congrArg AV.bool (sA _ _), hst⟩
theorem Bz {G : Cx} (hG : Plain G) {K : KP} {g : XG} {a b c d : AV} (h : eX K g a b c d) {σ : av} {L : Own} (hst : St σ K L) : a7 Tryz.prog G 73 [.agg [a, b, c, d]] σ fun v σ' => v = .bool (gA g) ∧ St σ' K L := by
 have h' := h; obtain ⟨hi, ht, hf, ho⟩ := h'
 refine a8 hG Tryz.func73 rfl (t := PT.leaf.put (some (.agg [a, b, c, d])) 0) (by rfl) (aj (ah rfl (bp hst rfl (cU rfl rfl) (fun _ => rfl) (fun σ b1 hst => ?_))))
 refine vQ 1 rfl (nS rfl (aa rfl (Iz 1 rfl) rfl (aa rfl (Ia rfl (hst.get 0 rfl) rfl) rfl (aa rfl (H9 ht rfl rfl rfl (e := 57) rfl) rfl (vQ 1 rfl (aL rfl (al rfl) (fun _ => rfl) (fun h7 => ?_) (fun h7 => ?_)))))))
 ·refine vQ 11 rfl (nT (aB ?_))
  exact ay rfl rfl ⟨congrArg AV.bool (by unfold gA; simp only [h7, cond_true, cond_false]), hst.pop⟩
 ·refine aa rfl (Iz 0 rfl) rfl (aa rfl (Ia rfl (hst.get 0 rfl) rfl) rfl (aa rfl (H9 hi rfl rfl rfl (e := 2) rfl) rfl (vQ 2 rfl (aL rfl (al rfl) (fun _ => rfl) (fun h13 => ?_) (fun h13 => ?_)))))
  ·refine vQ 5 rfl (nT (aB ?_))
   exact ay rfl rfl ⟨congrArg AV.bool (by unfold gA; simp only [h7, h13, cond_true, cond_false]), hst.pop⟩
  ·refine aa rfl (Iz 1 rfl) rfl (aa rfl (Ia rfl (hst.get 0 rfl) rfl) rfl (a9 rfl (It rfl rfl rfl) (fun _ => rfl) (rm hG ht hst) (fun σ hst => ?_)))
   refine vQ 2 rfl (nT (aB ?_))
   exact ay rfl rfl ⟨congrArg AV.bool (by unfold gA; simp only [h7, h13, cond_true, cond_false]), hst.pop⟩
theorem rA {G : Cx} (hG : Plain G) {K : KP} {g : XG} {a b c d : AV} (h : eX K g a b c d) {σ : av} {L : Own} (hst : St σ K L) : a7 Tryz.prog G 45 [.agg [a, b, c, d]] σ fun v σ' => v = .int .i64 (bJ g) ∧ St σ' K L := by
 have h' := h; obtain ⟨hi, ht, hf, ho⟩ := h'
 refine a8 hG Tryz.func45 rfl (t := PT.leaf.put (some (.agg [a, b, c, d])) 0) (by rfl) (aj (ah rfl (bp hst rfl (cU rfl rfl) (fun _ => rfl) (fun σ b1 hst => ?_))))
 refine vQ 1 rfl (nT (aj (aj (ah rfl (aa rfl (IC rfl (hst.get 0 rfl) (n := 4) (vs := [_, _, _, _]) rfl) rfl (a9 rfl (It rfl rfl rfl) (fun _ => rfl) (Bz hG h  hst) (fun σ hst => ?_)))))))
 refine nT (aE rfl (fun h8 => ?_) (fun h8 => ?_))
 ·refine aj (ah rfl (vQ 1 rfl (nT (aB (au (?_))))))
  exact ay rfl rfl ⟨congrArg (AV.int .i64) (by symm; unfold bJ; rw [h8]; rfl), hst.pop⟩
 ·refine aF (ad (aj (aj (ah rfl (aa rfl (Iz 2 rfl) rfl (aa rfl (Ia rfl (hst.get 0 rfl) rfl) rfl (aa rfl (H9 hf rfl rfl rfl (e := 74) rfl) rfl (aa rfl (Iz 1 rfl) rfl (aa rfl (Ia rfl (hst.get 0 rfl) rfl) rfl (aa rfl (H9 ht rfl rfl rfl (e := 57) rfl) rfl (vQ 1 rfl (aL rfl (al rfl) (fun _ => rfl) (fun h16 => ?_) (fun h16 => ?_)))))))))))))
  ·refine vQ 8 rfl (nT (aC rfl (aj (ah rfl (vQ 1 rfl (nT (aB (au (?_)))))))))
   exact ay rfl rfl ⟨congrArg (AV.int .i64) (by symm; unfold bJ; rw [h8, bM h16]; rfl), hst.pop⟩
  ·refine aa rfl (Iz 3 rfl) rfl (aa rfl (Ia rfl (hst.get 0 rfl) rfl) rfl (aa rfl (H9 ho rfl rfl rfl (e := 74) rfl) rfl (aa rfl (Iz 0 rfl) rfl (aa rfl (Ia rfl (hst.get 0 rfl) rfl) rfl (aa rfl (H9 hi rfl rfl rfl (e := 2) rfl) rfl (vQ 2 rfl (nT (aE rfl (fun h24 => ?_) (fun h24 => ?_)))))))))
   ·refine aj (ah rfl (vQ 1 rfl (nT (aB (au (?_))))))
    exact ay rfl rfl ⟨congrArg (AV.int .i64) (by symm; unfold bJ; rw [h8, a6 h16, bM h24]; rfl), hst.pop⟩
   ·refine aF (ad (aj (aj (ah rfl (aa rfl (Iz 1 rfl) rfl (aa rfl (Ia rfl (hst.get 0 rfl) rfl) rfl (aa rfl (H9 ht rfl rfl rfl (e := 57) rfl) rfl (vQ 1 rfl (nT (aP ?_))))))))))
    obtain ⟨LL1, hst, hLL1⟩ := hst.named
    refine bu [2, 3, 4, 5, 6, 28, 29, 30, 31, 32, 33, 34, 35, 36, 37, 38, 39, 40, 41, 42, 43, 44, 45, 46, 47, 48, 49, 50, 51, 52, 53, 54, 55, 56, 57, 58, 59, 60, 61, 62, 63, 64, 65, 66, 67, 68, 69, 70, 71, 72, 73] (fun j t σ => ∃ (i : Nat), j + i = g.threads.length ∧ iP g g.threads g.from_ 0 = iP g (g.threads.drop i) (g.from_.drop i) i ∧ t.get 28 = some (.int .i64 (.ofNat i)) ∧ St σ K LL1) (g.threads.length) ⟨0, rfl, rfl, rfl, hst⟩ ?_
    clear hst; intro j6 t σ ar hI; obtain ⟨i, hj6, he6, hv28, hst⟩ := hI
    subst hLL1
    obtain ⟨o2, o3, o4, o5, o6, o28, o29, o30, o31, o32, o33, o34, o35, o36, o37, o38, ar⟩ := ar.HE rfl rfl rfl rfl
    obtain ⟨o39, o40, o41, o42, o43, o44, o45, o46, o47, o48, o49, o50, o51, o52, o53, o54, ar⟩ := ar.HE rfl rfl rfl rfl
    obtain ⟨o55, o56, o57, o58, o59, o60, o61, o62, o63, o64, o65, o66, o67, o68, o69, o70, ar⟩ := ar.HE rfl rfl rfl rfl
    replace ar := ar.fD rfl; obtain ⟨o71, ar⟩ := ar
    replace ar := ar.fD rfl; obtain ⟨o72, ar⟩ := ar
    replace ar := ar.fD rfl; obtain ⟨o73, ar⟩ := ar
    obtain rfl := ar.nil; clear ar
    replace hv28 : o28 = some _ := hv28; subst hv28
    refine aj (ah rfl (vQ 1 rfl (nT (aj (aE rfl (fun h29 => ?_) (fun h29 => ?_))))))
    ·refine aF (ad (aj (aP (aj (ah rfl (vQ 1 rfl ?_))))))
     obtain ⟨x31, hx31, hi31⟩ := dv h29
     refine Ib (e := 57) (m := 1) ht hx31 rfl rfl rfl rfl (fun _ => rfl) (fun p31 vs31 hp31 hl31 hr31 => ?_)
     have hr31' := hr31; obtain ⟨v31, rfl, hk31⟩ := hr31'
     refine aa rfl (Ih hst hp31 rfl rfl) rfl (vQ 2 rfl (nT (aj (aj (ah rfl (aa rfl (Iz 2 rfl) rfl (aa rfl (Ia rfl (hst.get 0 rfl) rfl) rfl (vQ 1 rfl ?_))))))))
     obtain ⟨x36, hx36⟩ := cL (show i < g.from_.length from by rw [dc (a6 h16)]; exact hi31)
     refine Ib (e := 74) (m := 1) hf hx36 rfl rfl rfl rfl (fun _ => rfl) (fun p36 vs36 hp36 hl36 hr36 => ?_)
     have hr36' := hr36; obtain ⟨v36, rfl, hk36⟩ := hr36'
     refine aa rfl (Ih hst hp36 rfl rfl) rfl (aa rfl (H9 hk36 rfl rfl rfl (e := 67) rfl) rfl (vQ 1 rfl (aa rfl (H9 hk31 rfl rfl rfl (e := 56) rfl) rfl (vQ 1 rfl (nT (aE rfl (fun h41 => ?_) (fun h41 => ?_)))))))
     ·refine aj (ah rfl (vQ 1 rfl (nT (aB (au (aD (au (bx (aD (au (?_)))))))))))
      exact ay rfl rfl ⟨congrArg (AV.int .i64) (by symm; unfold bJ; rw [h8, a6 h16, a6 h24, show iP g g.threads g.from_ 0 = false from by rw [he6, bV hx31, bV hx36]; show (bif bk _ _ then _ else false) = false; rw [bM h41]; rfl]; rfl), hst.pop⟩
     ·refine aF (ad (aj (ah rfl (vQ 1 rfl (aa rfl (H9 hk31 rfl rfl rfl (e := 56) rfl) rfl (vQ 1 rfl (nT (aP ?_))))))))
      obtain ⟨LL2, hst, hLL2⟩ := hst.named
      refine bu [2, 5, 6, 44, 45, 46, 47, 48, 49, 50, 51, 52, 53, 54, 55, 56, 57, 58, 59, 60, 61, 62, 63, 64, 65, 66, 67, 68, 69, 70, 71, 72] (fun j t σ => ∃ (i2 : Nat), j + i2 = x31.length ∧ mN g i x31 x36 0 = mN g i (x31.drop i2) (x36.drop i2) i2 ∧ t.get 44 = some (.int .i64 (.ofNat i2)) ∧ St σ K LL2) (x31.length) ⟨0, rfl, rfl, rfl, hst⟩ ?_
      clear hst; intro j11 t σ ar hI; obtain ⟨i2, hj11, he11, hv44, hst⟩ := hI
      subst hLL2
      obtain ⟨o2, o5, o6, o44, o45, o46, o47, o48, o49, o50, o51, o52, o53, o54, o55, o56, ar⟩ := ar.HE rfl rfl rfl rfl
      obtain ⟨o57, o58, o59, o60, o61, o62, o63, o64, o65, o66, o67, o68, o69, o70, o71, o72, ar⟩ := ar.HE rfl rfl rfl rfl
      obtain rfl := ar.nil; clear ar
      replace hv44 : o44 = some _ := hv44; subst hv44
      refine aj (ah rfl (vQ 1 rfl (nT (aj (aE rfl (fun h45 => ?_) (fun h45 => ?_))))))
      ·refine aF (ad (aj (aP (aj (ah rfl (vQ 1 rfl ?_))))))
       obtain ⟨x47, hx47, hi47⟩ := dv h45
       refine Ib (e := 56) (m := 5) hk31 hx47 rfl rfl rfl rfl (fun _ => rfl) (fun p47 vs47 hp47 hl47 hr47 => ?_)
       obtain rfl := hr47
       refine aa rfl (cr hst hp47 rfl (by kernel_rfl) rfl) rfl (bp hst rfl (Ix (cs := [.int .i64 0, .int .i64 0, .int .i64 0, .int .i64 0, .int .i64 0])) (fun _ => rfl) (fun σ b2 hst => ?_))
       refine vQ 1 rfl (bA hst rfl (Io rfl rfl rfl (hst.get 0 rfl) (m := 5) rfl rfl (cells' := [_, _, _, _, _]) rfl) rfl (fun σ hst => ?_))
       refine nT (aj (aR (l := [(0, []), (1, []), (2, []), (3, []), (4, []), (5, []), (6, []), (7, []), (8, []), (9, []), (10, []), (11, []), (12, []), (13, []), (14, []), (15, []), (16, []), (17, []), (18, []), (19, []), (20, []), (21, []), (22, [])]) (by kernel_rfl) (by kernel_rfl) (an rfl rfl (IC rfl (hst.get 0 rfl) (n := 5) (vs := [_, _, _, _, _]) rfl) rfl (an rfl rfl (Iz 0 rfl) rfl (an rfl rfl (Ia rfl (hst.get 1 rfl) rfl) rfl (an rfl rfl (H9 hi rfl rfl rfl (e := 2) rfl) rfl (dt rfl rfl (It rfl rfl rfl) (fun _ => rfl) (vY hG _ _ hst) (fun σ hst => ?_))))))))
       refine ⟨aY, ?_⟩
       refine an rfl rfl (dI rfl) rfl (rD rfl rfl (al rfl) (fun _ => rfl) (fun h55 => ?_) (fun h55 => ?_))
       ·refine wQ 16 rfl (ba (ad (aC rfl (aj (ah rfl (vQ 1 rfl (nT (aB (aD (au (bx (aD (aD (au (bx (aD (au (?_))))))))))))))))))
        exact ay rfl rfl ⟨congrArg (AV.int .i64) (by symm; unfold bJ; rw [h8, a6 h16, a6 h24, show iP g g.threads g.from_ 0 = false from by rw [he6, bV hx31, bV hx36]; show (bif bk _ _ then (bif mN g i x31 x36 0 then _ else false) else false) = false; rw [a6 h41, show mN g i x31 x36 0 = false from by rw [he11]; obtain ⟨x67, hx67⟩ := cL (show i2 < x36.length from by rw [dc (a6 h41)]; exact hi47); rw [bV hx47, bV hx67]; show (bif yC g i i2 x47 x67 then _ else false) = false; rw [show yC g i i2 x47 x67 = false from by unfold yC; rw [mn h55]; rfl]; rfl]; rfl]; rfl), hst.pop.pop⟩
       ·refine an rfl rfl (IC rfl (hst.get 1 rfl) (n := 4) (vs := [_, _, _, _]) rfl) rfl (wQ 3 rfl (an rfl rfl (Is (places := [(0, 1), (1, 1)]) (zero := [.int .i64 0, .int .i64 0]) (cs := [_, _]) rfl) rfl (an rfl rfl (Iz 2 rfl) rfl (an rfl rfl (Ia rfl (hst.get 1 rfl) rfl) rfl (wQ 1 rfl (Ic (e := 74) (m := 1) hf hx36 rfl rfl rfl rfl rfl (fun _ => rfl) (fun p64 vs64 hp64 hl64 hr64 => ?_)))))))
        have hr64' := hr64; obtain ⟨v64, rfl, hk64⟩ := hr64'
        refine an rfl rfl (Ih hst hp64 rfl rfl) rfl (wQ 1 rfl ?_)
        obtain ⟨x67, hx67⟩ := cL (show i2 < x36.length from by rw [dc (a6 h41)]; exact hi47)
        refine Ic (e := 67) (m := 2) hk64 hx67 rfl rfl rfl rfl rfl (fun _ => rfl) (fun p67 vs67 hp67 hl67 hr67 => ?_)
        obtain rfl := hr67
        refine an rfl rfl (cr hst hp67 rfl (by kernel_rfl) rfl) rfl (dt rfl rfl (It rfl rfl rfl) (fun _ => rfl) (xX hG h _ _ _ _ hst) (fun σ hst => ?_))
        refine ⟨aY, ?_⟩
        refine an rfl rfl (dI rfl) rfl (wQ 1 rfl (ba (ad (aE rfl (fun h71 => ?_) (fun h71 => ?_)))))
        ·refine aj (ah rfl (vQ 1 rfl (nT (aB (aD (au (bx (aD (aD (au (bx (aD (au (?_))))))))))))))
         exact ay rfl rfl ⟨congrArg (AV.int .i64) (by symm; unfold bJ; rw [h8, a6 h16, a6 h24, show iP g g.threads g.from_ 0 = false from by rw [he6, bV hx31, bV hx36]; show (bif bk _ _ then (bif mN g i x31 x36 0 then _ else false) else false) = false; rw [a6 h41, show mN g i x31 x36 0 = false from by rw [he11]; rw [bV hx47, bV hx67]; show (bif yC g i i2 x47 x67 then _ else false) = false; rw [show yC g i i2 x47 x67 = false from by unfold yC; rw [fY h55, ← bg (i := i) (by have := ht.bG; omega)]; exact mn h71]; rfl]; rfl]; rfl), hst.pop.pop⟩
        ·refine aF (aK (ad (ah rfl (vQ 2 rfl (af ?_)))))
         have hst := hst.pop
         refine aQ ⟨j11 - 1, by omega, (by (iterate 63 refine bq.put rfl ?_); exact bq.refl _ _), i2 + 1, by omega, by rw [he11, bV hx47, bV hx67]; show (bif yC g i i2 x47 x67 then _ else false) = _; rw [show yC g i i2 x47 x67 = true from by unfold yC; rw [fY h55, ← bg (i := i) (by have := ht.bG; omega)]; exact fY h71]; rfl, congrArg (fun z => some (AV.int .i64 z)) (bg (by have := hk31.bG; omega)), hst⟩
      ·refine bz (aZ (bc (aU (aK (ad (ah rfl (vQ 2 rfl (af ?_))))))))
       refine aQ ⟨j6 - 1, by omega, (by (iterate 104 refine bq.put rfl ?_); exact bq.refl _ _), i + 1, by omega, by rw [he6, bV hx31, bV hx36]; show (bif bk _ _ then (bif mN g i x31 x36 0 then _ else false) else false) = _; rw [a6 h41, show mN g i x31 x36 0 = true from by rw [he11, eD (bn h45)]; rfl]; rfl, congrArg (fun z => some (AV.int .i64 z)) (bg (by have := ht.bG; omega)), hst⟩
    ·refine bz (aZ (bc (aU (ad (aj (aj (ah rfl (aa rfl (IC rfl (hst.get 0 rfl) (n := 4) (vs := [_, _, _, _]) rfl) rfl (a9 rfl (It rfl rfl rfl) (fun _ => rfl) (v9 hG h  hst) (fun σ hst => ?_))))))))))
     refine aa rfl (dI rfl) rfl (nT (aE rfl (fun h76 => ?_) (fun h76 => ?_)))
     ·refine aj (ah rfl (vQ 1 rfl (nT (aB (au (?_))))))
      exact ay rfl rfl ⟨congrArg (AV.int .i64) (by symm; unfold bJ; rw [h8, a6 h16, a6 h24, show iP g g.threads g.from_ 0 = true from by rw [he6, eD (bn h29)]; rfl, mn h76]; rfl), hst.pop⟩
     ·refine aF (ad (aj (ah rfl (vQ 1 rfl (nT (aB ?_))))))
      exact ay rfl rfl ⟨congrArg (AV.int .i64) (by symm; unfold bJ; rw [h8, a6 h16, a6 h24, show iP g g.threads g.from_ 0 = true from by rw [he6, eD (bn h29)]; rfl, fY h76]; rfl), hst.pop⟩
theorem RL.mono {α : Type} {K K' : KP} (hk : KP.le K K') {m : Nat} {R : α → List AV → Prop} {l : List α} {vs : List AV} (h : RL K m R l vs) : RL K' m R l vs := let ⟨v, h1, h2⟩ := h; ⟨v, h1, h2.mono hk fun _ _ h => h⟩
theorem eX.mono {K K' : KP} (hk : KP.le K K') {g : XG} {a b c d : AV} (h : eX K g a b c d) : eX K' g a b c d :=
 ⟨h.init.mono hk fun _ _ h => h, h.threads.mono hk fun _ _ h => h.mono hk, h.from_.mono hk fun _ _ h => h.mono hk, h.order.mono hk fun _ _ h => h.mono hk⟩
theorem qk {G : Cx} (hG : Plain G) {K : KP} {l : List Int} {v : AV} (h : bC K 1 dE l v) (hn : l.length ≤ 1048576) {σ : av} {L : Own} (hst : St σ K L) : a7 Tryz.prog G 49 [v] σ fun u σ' => ∃ M, eG 1 2 dE l u M ∧ St σ' K (M ++ L) := by
 have h0 := h; rcases h0 with ⟨rfl, rfl⟩ | ⟨b, off, c, cells, e, ro, rfl, _⟩
 ·refine a8 hG Tryz.func49 rfl (t := PT.leaf.put (some (.aq)) 0) (by rfl) (aj (ah rfl (vQ 1 rfl (nT (aj (aj (ah rfl (vQ 2 rfl (nT (aC rfl (aj ?_)))))))))))
  refine ah rfl (vQ 1 rfl (nT (aB (au (?_)))))
  exact ay rfl rfl ⟨[], .inl ⟨rfl, rfl, rfl⟩, hst⟩
 ·refine a8 hG Tryz.func49 rfl (t := PT.leaf.put (some (.slice b off l.length c)) 0) (by rfl) (aj (ah rfl (vQ 1 rfl (nT (aj (aj (ah rfl (vQ 2 rfl (nT (aI rfl (aF ?_)))))))))))
  refine ad (aj (ah rfl (lD hst rfl (dy (e := 2) (m := 1) (z := [.int .i64 0]) (cs := []) (by kernel_rfl) (by kernel_rfl) (by kernel_rfl) (by kernel_rfl) (by rfl)) (fun _ => rfl) (fun σ b1 hst => ?_))))
  refine vQ 1 rfl (lA (R := dE) (m := 1) (e := 2) hst h dE.leaf hn (by simp) (by decide) (.inl rfl) rfl rfl rfl rfl rfl (by kernel_rfl) (by kernel_rfl) (by kernel_rfl) rfl rfl (fun _ => rfl) (fun σ b2 c2 news e2 hst hl2 hr2 hc2 => ?_))
  refine vQ 1 rfl (nT (aB ?_))
  exact ay rfl rfl ⟨[(b2, .row ([] ++ news) e2 false)], .inr ⟨b2, c2, news, e2, by rw [Nat.zero_add], rfl, hl2, hr2, by simpa using hc2, hn⟩, hst⟩
theorem DF {G : Cx} (hG : Plain G) {K : KP} {l : List cS} {v : AV} (h : bC K 5 kQ l v) (hn : l.length ≤ 1048576) {σ : av} {L : Own} (hst : St σ K L) : a7 Tryz.prog G 158 [v] σ fun u σ' => ∃ M, eG 5 56 kQ l u M ∧ St σ' K (M ++ L) := by
 have h0 := h; rcases h0 with ⟨rfl, rfl⟩ | ⟨b, off, c, cells, e, ro, rfl, _⟩
 ·refine a8 hG Tryz.func158 rfl (t := PT.leaf.put (some (.aq)) 0) (by rfl) (aj (ah rfl (vQ 1 rfl (nT (aj (aj (ah rfl (vQ 2 rfl (nT (aC rfl (aj ?_)))))))))))
  refine ah rfl (vQ 1 rfl (nT (aB (au (?_)))))
  exact ay rfl rfl ⟨[], .inl ⟨rfl, rfl, rfl⟩, hst⟩
 ·refine a8 hG Tryz.func158 rfl (t := PT.leaf.put (some (.slice b off l.length c)) 0) (by rfl) (aj (ah rfl (vQ 1 rfl (nT (aj (aj (ah rfl (vQ 2 rfl (nT (aI rfl (aF ?_)))))))))))
  refine ad (aj (ah rfl (lD hst rfl (dy (e := 56) (m := 5) (z := [.int .i64 0, .int .i64 0, .int .i64 0, .int .i64 0, .int .i64 0]) (cs := []) (by kernel_rfl) (by kernel_rfl) (by kernel_rfl) (by kernel_rfl) (by rfl)) (fun _ => rfl) (fun σ b1 hst => ?_))))
  refine vQ 1 rfl (lA (R := kQ) (m := 5) (e := 56) hst h kQ.leaf hn (by simp) (by decide) (.inl rfl) rfl rfl rfl rfl rfl (by kernel_rfl) (by kernel_rfl) (by kernel_rfl) rfl rfl (fun _ => rfl) (fun σ b2 c2 news e2 hst hl2 hr2 hc2 => ?_))
  refine vQ 1 rfl (nT (aB ?_))
  exact ay rfl rfl ⟨[(b2, .row ([] ++ news) e2 false)], .inr ⟨b2, c2, news, e2, by rw [Nat.zero_add], rfl, hl2, hr2, by simpa using hc2, hn⟩, hst⟩
theorem Cr {G : Cx} (hG : Plain G) {K : KP} {l : List cW} {v : AV} (h : bC K 2 kR l v) (hn : l.length ≤ 1048576) {σ : av} {L : Own} (hst : St σ K L) : a7 Tryz.prog G 159 [v] σ fun u σ' => ∃ M, eG 2 67 kR l u M ∧ St σ' K (M ++ L) := by
 have h0 := h; rcases h0 with ⟨rfl, rfl⟩ | ⟨b, off, c, cells, e, ro, rfl, _⟩
 ·refine a8 hG Tryz.func159 rfl (t := PT.leaf.put (some (.aq)) 0) (by rfl) (aj (ah rfl (vQ 1 rfl (nT (aj (aj (ah rfl (vQ 2 rfl (nT (aC rfl (aj ?_)))))))))))
  refine ah rfl (vQ 1 rfl (nT (aB (au (?_)))))
  exact ay rfl rfl ⟨[], .inl ⟨rfl, rfl, rfl⟩, hst⟩
 ·refine a8 hG Tryz.func159 rfl (t := PT.leaf.put (some (.slice b off l.length c)) 0) (by rfl) (aj (ah rfl (vQ 1 rfl (nT (aj (aj (ah rfl (vQ 2 rfl (nT (aI rfl (aF ?_)))))))))))
  refine ad (aj (ah rfl (lD hst rfl (dy (e := 67) (m := 2) (z := [.int .i64 0, .int .i64 0]) (cs := []) (by kernel_rfl) (by kernel_rfl) (by kernel_rfl) (by kernel_rfl) (by rfl)) (fun _ => rfl) (fun σ b1 hst => ?_))))
  refine vQ 1 rfl (lA (R := kR) (m := 2) (e := 67) hst h kR.leaf hn (by simp) (by decide) (.inl rfl) rfl rfl rfl rfl rfl (by kernel_rfl) (by kernel_rfl) (by kernel_rfl) rfl rfl (fun _ => rfl) (fun σ b2 c2 news e2 hst hl2 hr2 hc2 => ?_))
  refine vQ 1 rfl (nT (aB ?_))
  exact ay rfl rfl ⟨[(b2, .row ([] ++ news) e2 false)], .inr ⟨b2, c2, news, e2, by rw [Nat.zero_add], rfl, hl2, hr2, by simpa using hc2, hn⟩, hst⟩
theorem Bx {G : Cx} (hG : Plain G) {K : KP} {ls : List (List cS)} {v : AV} (h : bC K 1 (RL K 5 kQ) ls v) (hn : ls.length ≤ 1000) (hn2 : ∀ l ∈ ls, l.length ≤ 1048576) {σ : av} {L : Own} (hst : St σ K L) :
  a7 Tryz.prog G 104 [v] σ fun u σ' => ∃ bo us M, u = .slice bo 0 ls.length (.known ls.length) ∧ fz 5 56 kQ ls us M ∧ St σ' K (M ++ (bo, .row us 57 false) :: L) := by
 refine a8 hG Tryz.func104 rfl (t := PT.leaf.put (some (v)) 0) (by rfl) (aj (ah rfl (vQ 1 rfl (nS rfl (vQ 1 rfl (aa rfl (H9 h rfl rfl rfl (e := 57) rfl) rfl (lD hst rfl (gm (n := ls.length) (e := 57) (w := 24) (z := [.aq]) rfl (by kernel_rfl) (by kernel_rfl) (by kernel_rfl) rfl rfl (by omega) (by omega)) (fun _ => rfl) (fun σ bo hst => ?_))))))))
 rw [eH] at hst
 refine vQ 1 rfl (nT (aj (aj (ah rfl (vQ 1 rfl (aa rfl (H9 h rfl rfl rfl (e := 57) rfl) rfl (vQ 1 rfl (nT (aP (bu [4, 5, 11, 12, 13, 14, 15, 16, 17, 18, 19, 20, 21] (fun j t σ => ∃ (i : Nat) (us : List AV) (M : Own), j + i = ls.length ∧ fz 5 56 kQ (ls.take i) us M ∧ t.get 11 = some (.int .i64 (.ofNat i)) ∧ St σ K (M ++ (bo, .row (us ++ List.replicate (ls.length - i) AV.aq) 57 false) :: L)) (ls.length) ⟨0, [], [], rfl, .nil, rfl, hst⟩ ?_))))))))))
 clear hst; intro j3 t σ ar hI; obtain ⟨i, us, M, hj3, hO, hv11, hst⟩ := hI
 replace ar := ar.dC rfl rfl; obtain ⟨o4, o5, o11, o12, o13, o14, o15, o16, ar⟩ := ar
 replace ar := ar.rp rfl; obtain ⟨o17, o18, o19, o20, ar⟩ := ar
 replace ar := ar.fD rfl; obtain ⟨o21, ar⟩ := ar
 obtain rfl := ar.nil; clear ar
 replace hv11 : o11 = some _ := hv11; subst hv11
 refine aj (ah rfl (vQ 1 rfl (nT (aj (aE rfl (fun h12 => ?_) (fun h12 => ?_))))))
 ·refine aF (ad (aj (aP (aj (ah rfl (vQ 1 rfl ?_))))))
  obtain ⟨x14, hx14, hi14⟩ := dv h12
  refine Ib (e := 57) (m := 1) h hx14 rfl rfl rfl rfl (fun _ => rfl) (fun p14 vs14 hp14 hl14 hr14 => ?_)
  have hr14' := hr14; obtain ⟨v14, rfl, hk14⟩ := hr14'
  refine aa rfl (Ih hst hp14 rfl rfl) rfl (vQ 2 rfl (nT (ah rfl (vQ 3 rfl (cJ rfl (It rfl rfl rfl) (fun _ => rfl) (DF hG hk14 (hn2 _ (List.mem_of_getElem? hx14)) hst) ?_)))))
  rintro u19 σ ⟨M19, hM19, hst⟩
  refine aa rfl (ej (e := 57) (m := 1) rfl (by kernel_rfl) rfl rfl hi14) rfl ?_
  rw [← List.append_assoc] at hst
  have hul : us.length = i := by rw [hO.length, List.length_take]; omega
  refine fo rfl (iA rfl rfl hM19.leaf.1 hst.Dk (m := 1) (by kernel_rfl) rfl (by rw [List.length_append, List.length_replicate]; omega) (ae hM19.leaf.2 rfl)) rfl ?_
  rw [Aj hul hi14]
  replace hst := hst.zn (.row (us ++ [u19] ++ List.replicate (ls.length - (i + 1)) AV.aq) 57 false)
  refine af (aK (ad (ah rfl (vQ 2 rfl (af (aQ ⟨j3 - 1, by omega, (by (iterate 26 refine bq.put rfl ?_); exact bq.refl _ _), i + 1, us ++ [u19], M19 ++ M, by omega, by rw [List.take_add_one, hx14]; exact .snoc hO hM19, congrArg (fun z => some (AV.int .i64 z)) (bg (by have := h.bG; omega)), hst⟩))))))
 ·refine bz (aZ (bc (aU (ad (aj (ah rfl (vQ 2 rfl (nT (aB ?_)))))))))
  exact ay rfl rfl ⟨bo, us, M, rfl, by rwa [List.take_of_length_le (bn h12)] at hO, by rwa [show ls.length - i = 0 from by have := bn h12; omega, List.replicate_zero, List.append_nil] at hst⟩
theorem vf {G : Cx} (hG : Plain G) {K : KP} {ls : List (List cW)} {v : AV} (h : bC K 1 (RL K 2 kR) ls v) (hn : ls.length ≤ 1000) (hn2 : ∀ l ∈ ls, l.length ≤ 1048576) {σ : av} {L : Own} (hst : St σ K L) :
  a7 Tryz.prog G 105 [v] σ fun u σ' => ∃ bo us M, u = .slice bo 0 ls.length (.known ls.length) ∧ fz 2 67 kR ls us M ∧ St σ' K (M ++ (bo, .row us 74 false) :: L) := by
 refine a8 hG Tryz.func105 rfl (t := PT.leaf.put (some (v)) 0) (by rfl) (aj (ah rfl (vQ 1 rfl (nS rfl (vQ 1 rfl (aa rfl (H9 h rfl rfl rfl (e := 74) rfl) rfl (lD hst rfl (gm (n := ls.length) (e := 74) (w := 24) (z := [.aq]) rfl (by kernel_rfl) (by kernel_rfl) (by kernel_rfl) rfl rfl (by omega) (by omega)) (fun _ => rfl) (fun σ bo hst => ?_))))))))
 rw [eH] at hst
 refine vQ 1 rfl (nT (aj (aj (ah rfl (vQ 1 rfl (aa rfl (H9 h rfl rfl rfl (e := 74) rfl) rfl (vQ 1 rfl (nT (aP (bu [4, 5, 11, 12, 13, 14, 15, 16, 17, 18, 19, 20, 21] (fun j t σ => ∃ (i : Nat) (us : List AV) (M : Own), j + i = ls.length ∧ fz 2 67 kR (ls.take i) us M ∧ t.get 11 = some (.int .i64 (.ofNat i)) ∧ St σ K (M ++ (bo, .row (us ++ List.replicate (ls.length - i) AV.aq) 74 false) :: L)) (ls.length) ⟨0, [], [], rfl, .nil, rfl, hst⟩ ?_))))))))))
 clear hst; intro j3 t σ ar hI; obtain ⟨i, us, M, hj3, hO, hv11, hst⟩ := hI
 replace ar := ar.dC rfl rfl; obtain ⟨o4, o5, o11, o12, o13, o14, o15, o16, ar⟩ := ar
 replace ar := ar.rp rfl; obtain ⟨o17, o18, o19, o20, ar⟩ := ar
 replace ar := ar.fD rfl; obtain ⟨o21, ar⟩ := ar
 obtain rfl := ar.nil; clear ar
 replace hv11 : o11 = some _ := hv11; subst hv11
 refine aj (ah rfl (vQ 1 rfl (nT (aj (aE rfl (fun h12 => ?_) (fun h12 => ?_))))))
 ·refine aF (ad (aj (aP (aj (ah rfl (vQ 1 rfl ?_))))))
  obtain ⟨x14, hx14, hi14⟩ := dv h12
  refine Ib (e := 74) (m := 1) h hx14 rfl rfl rfl rfl (fun _ => rfl) (fun p14 vs14 hp14 hl14 hr14 => ?_)
  have hr14' := hr14; obtain ⟨v14, rfl, hk14⟩ := hr14'
  refine aa rfl (Ih hst hp14 rfl rfl) rfl (vQ 2 rfl (nT (ah rfl (vQ 3 rfl (cJ rfl (It rfl rfl rfl) (fun _ => rfl) (Cr hG hk14 (hn2 _ (List.mem_of_getElem? hx14)) hst) ?_)))))
  rintro u19 σ ⟨M19, hM19, hst⟩
  refine aa rfl (ej (e := 74) (m := 1) rfl (by kernel_rfl) rfl rfl hi14) rfl ?_
  rw [← List.append_assoc] at hst
  have hul : us.length = i := by rw [hO.length, List.length_take]; omega
  refine fo rfl (iA rfl rfl hM19.leaf.1 hst.Dk (m := 1) (by kernel_rfl) rfl (by rw [List.length_append, List.length_replicate]; omega) (ae hM19.leaf.2 rfl)) rfl ?_
  rw [Aj hul hi14]
  replace hst := hst.zn (.row (us ++ [u19] ++ List.replicate (ls.length - (i + 1)) AV.aq) 74 false)
  refine af (aK (ad (ah rfl (vQ 2 rfl (af (aQ ⟨j3 - 1, by omega, (by (iterate 26 refine bq.put rfl ?_); exact bq.refl _ _), i + 1, us ++ [u19], M19 ++ M, by omega, by rw [List.take_add_one, hx14]; exact .snoc hO hM19, congrArg (fun z => some (AV.int .i64 z)) (bg (by have := h.bG; omega)), hst⟩))))))
 ·refine bz (aZ (bc (aU (ad (aj (ah rfl (vQ 2 rfl (nT (aB ?_)))))))))
  exact ay rfl rfl ⟨bo, us, M, rfl, by rwa [List.take_of_length_le (bn h12)] at hO, by rwa [show ls.length - i = 0 from by have := bn h12; omega, List.replicate_zero, List.append_nil] at hst⟩
def Gf (g : XG) : Prop := g.init.length ≤ 1000 ∧ g.threads.length ≤ 1000 ∧ (∀ l ∈ g.threads, l.length ≤ 1048576) ∧ g.from_.length ≤ 1000 ∧ (∀ l ∈ g.from_, l.length ≤ 1048576) ∧ g.order.length ≤ 1000 ∧ (∀ l ∈ g.order, l.length ≤ 1048576)
structure HX (g : XG) (u1 : AV) (M1 : Own) (b2 : Nat) (us2 : List AV) (M2 : Own) (b3 : Nat) (us3 : List AV) (M3 : Own) (b4 : Nat) (us4 : List AV) (M4 : Own) : Prop where
 init : eG 1 2 dE g.init u1 M1
 threads : fz 5 56 kQ g.threads us2 M2
 from_ : fz 2 67 kR g.from_ us3 M3
 order : fz 2 67 kR g.order us4 M4
abbrev HV (M1 : Own) (b2 : Nat) (us2 : List AV) (M2 : Own) (b3 : Nat) (us3 : List AV) (M3 : Own) (b4 : Nat) (us4 : List AV) (M4 : Own) (L : Own) : Own :=
 M4 ++ (b4, .row us4 74 false) :: (M3 ++ (b3, .row us3 74 false) :: (M2 ++ (b2, .row us2 57 false) :: (M1 ++ L)))
abbrev HT (g : XG) (u1 : AV) (b2 b3 b4 : Nat) : List AV := [u1, .slice b2 0 g.threads.length (.known g.threads.length), .slice b3 0 g.from_.length (.known g.from_.length), .slice b4 0 g.order.length (.known g.order.length)]
theorem sa {G : Cx} (hG : Plain G) {K : KP} {g : XG} {a b c d : AV} (h : eX K g a b c d) (hbd : Gf g) {σ : av} {L : Own} (hst : St σ K L) :
  a7 Tryz.prog G 69 [.agg [a, b, c, d]] σ fun v σ' => ∃ u1 M1 b2 us2 M2 b3 us3 M3 b4 us4 M4, v = .agg (HT g u1 b2 b3 b4) ∧ HX g u1 M1 b2 us2 M2 b3 us3 M3 b4 us4 M4 ∧ St σ' K (HV M1 b2 us2 M2 b3 us3 M3 b4 us4 M4 L) := by
 have h' := h; obtain ⟨hi, ht, hf, ho⟩ := h'
 refine a8 hG Tryz.func69 rfl (t := PT.leaf.put (some (.agg [a, b, c, d])) 0) (by rfl) (aj (ah rfl (bp hst rfl (cU rfl rfl) (fun _ => rfl) (fun σ b1 hst => ?_))))
 refine bp hst rfl (Ix (cs := [.aq, .aq, .aq, .aq])) (fun _ => rfl) (fun σ b2 hst => ?_)
 refine nT (aj (aR (l := [(0, []), (1, []), (3, []), (4, []), (6, []), (7, []), (9, []), (10, []), (2, [4, 7, 10]), (5, [7, 10]), (8, [10]), (11, []), (12, []), (13, [])]) (by kernel_rfl) (by kernel_rfl) (an rfl rfl (Iz 0 rfl) rfl (an rfl rfl (Ia rfl (hst.get 1 rfl) rfl) rfl (an rfl rfl (Iz 1 rfl) rfl (an rfl rfl (Ia rfl (hst.get 1 rfl) rfl) rfl (an rfl rfl (Iz 2 rfl) rfl (an rfl rfl (Ia rfl (hst.get 1 rfl) rfl) rfl (an rfl rfl (Iz 3 rfl) rfl (an rfl rfl (Ia rfl (hst.get 1 rfl) rfl) rfl (gR rfl rfl (It rfl rfl rfl) (fun _ => rfl) (qk hG hi (by have := hbd.1; omega) hst) ?_)))))))))))
 rintro u5 σ ⟨M5, hM5, hst⟩
 refine ⟨(bP (cM rfl rfl rfl rfl rfl (Ia rfl (hst.bl.pop.get 0 rfl) rfl) ht.dn) (bP (cM rfl rfl rfl rfl rfl (Ia rfl (hst.bl.pop.get 0 rfl) rfl) hf.dn) (bP (cM rfl rfl rfl rfl rfl (Ia rfl (hst.bl.pop.get 0 rfl) rfl) ho.dn) aY))), ?_⟩
 refine gR rfl rfl (It rfl rfl rfl) (fun _ => rfl) (Bx hG ht hbd.2.1 hbd.2.2.1 hst) ?_
 rintro _ σ ⟨b3, us8, M8, rfl, hO8, hst⟩
 refine ⟨(bP (cM rfl rfl rfl rfl rfl (Ia rfl (hst.bl.pop.bl.pop.get 0 rfl) rfl) hf.dn) (bP (cM rfl rfl rfl rfl rfl (Ia rfl (hst.bl.pop.bl.pop.get 0 rfl) rfl) ho.dn) aY)), ?_⟩
 refine gR rfl rfl (It rfl rfl rfl) (fun _ => rfl) (vf hG hf hbd.2.2.2.1 hbd.2.2.2.2.1 hst) ?_
 rintro _ σ ⟨b4, us11, M11, rfl, hO11, hst⟩
 refine ⟨(bP (cM rfl rfl rfl rfl rfl (Ia rfl (hst.bl.pop.bl.pop.bl.pop.get 0 rfl) rfl) ho.dn) aY), ?_⟩
 refine gR rfl rfl (It rfl rfl rfl) (fun _ => rfl) (vf hG ho hbd.2.2.2.2.2.1 hbd.2.2.2.2.2.2 hst) ?_
 rintro _ σ ⟨b5, us14, M14, rfl, hO14, hst⟩
 refine ⟨aY, ?_⟩
 refine an rfl rfl (br (places := [(0, 1), (1, 1), (2, 1), (3, 1)]) (zero := [.aq, .aq, .aq, .aq]) (cs := [_, _, _, _]) (by kernel_rfl) (by kernel_rfl) (by kernel_rfl) (bL rfl rfl hM5.leaf.1 rfl (bL rfl rfl rfl rfl (bL rfl rfl rfl rfl (bL rfl rfl rfl rfl cX)))) (by kernel_rfl)) rfl (l8 hst (.eS (.there (.eS (.there (.eS (.there (.eS .here))))))) rfl rfl (Io rfl rfl rfl (hst.bl.pop.bl.pop.bl.pop.bl.get 0 rfl) (m := 4) rfl (ae hM5.leaf.2 rfl) (cells' := [_, _, _, _]) rfl) rfl (fun σ hst => ?_))
 refine ⟨aY, ?_⟩
 refine ba (ad (aB ?_))
 exact gW rfl rfl (hst.bl.pop.bl.pop.bl.pop.bl.get 0 rfl) (m := 4) (by kernel_rfl) rfl ⟨_, _, _, _, _, _, _, _, _, _, _, rfl, ⟨hM5, hO8, hO11, hO14⟩, hst.sub (ig (.cons_cons _ (ig (.cons_cons _ (ig (.cons_cons _ (ig (.cons _ (.cons _ (.refl _))))))))))⟩
theorem pC {G : Cx} (hG : Plain G) {K : KP} {g : XG} {a b c d : AV} (h : eX K g a b c d) (hbo : ∀ l ∈ g.order, l.length ≤ 1000000) (loc : Int) {σ : av} {L : Own} (hst : St σ K L) :
  a7 Tryz.prog G 42 [.agg [a, b, c, d], .int .i64 loc] σ fun v σ' => ∃ M, eG 2 67 kR (bR g loc) v M ∧ St σ' K (M ++ L) := by
 have h' := h; obtain ⟨hi, ht, hf, ho⟩ := h'
 refine a8 hG Tryz.func42 rfl (t := (PT.leaf.put (some (.agg [a, b, c, d])) 0).put (some (.int .i64 loc)) 1) (by rfl) (aj (ah rfl (bp hst rfl (cU rfl rfl) (fun _ => rfl) (fun σ b1 hst => ?_))))
 refine vQ 1 rfl (nT (aj (aj (ah rfl (aa rfl (IC rfl (hst.get 0 rfl) (n := 4) (vs := [_, _, _, _]) rfl) rfl (a9 rfl (It rfl rfl rfl) (fun _ => rfl) (rA hG h  hst) (fun σ hst => ?_)))))))
 refine vQ 1 rfl (aL rfl (al rfl) (fun _ => rfl) (fun h8 => ?_) (fun h8 => ?_))
 ·refine vQ 10 rfl (nT (aC rfl (aj (ah rfl (vQ 1 rfl (nT (aB (au (?_)))))))))
  exact ay rfl rfl ⟨[], .inl ⟨pr (bM h8), rfl, rfl⟩, hst.pop⟩
 ·refine vQ 3 rfl (aL rfl (al rfl) (fun _ => rfl) (fun h12 => ?_) (fun h12 => ?_))
  ·refine vQ 6 rfl (nT (aC rfl (aj (ah rfl (vQ 1 rfl (nT (aB (au (?_)))))))))
   exact ay rfl rfl ⟨[], .inl ⟨qZ h12, rfl, rfl⟩, hst.pop⟩
  ·refine vQ 1 rfl (aa rfl (Iz 0 rfl) rfl (aa rfl (Ia rfl (hst.get 0 rfl) rfl) rfl (aa rfl (H9 hi rfl rfl rfl (e := 2) rfl) rfl (vQ 2 rfl (nT (aE rfl (fun h18 => ?_) (fun h18 => ?_)))))))
   ·obtain ⟨ln, rfl⟩ := qw h12
    refine aj (ah rfl (vQ 1 rfl (nT (aB (au (?_))))))
    exact ay rfl rfl ⟨[], .inl ⟨qM (by rw [(cq (qp (a6 h8))).2.2.2.2.1]; exact sB h18), rfl, rfl⟩, hst.pop⟩
   ·obtain ⟨ln, rfl⟩ := qw h12
    refine aF (ad (aj (ah rfl (vQ 1 rfl (aa rfl (Is (places := [(0, 1), (1, 1)]) (zero := [.int .i64 0, .int .i64 0]) (cs := [_, _]) rfl) rfl (lD hst rfl (dy (e := 67) (m := 2) (z := [.int .i64 0, .int .i64 0]) (cs := [_, _]) (by kernel_rfl) (by kernel_rfl) (by kernel_rfl) (by kernel_rfl) (bL rfl rfl rfl rfl cX)) (fun _ => rfl) (fun σ b2 hst => ?_)))))))
    refine aa rfl (Iz 3 rfl) rfl (aa rfl (Ia rfl (hst.get 1 rfl) rfl) rfl (vQ 1 rfl ?_))
    obtain ⟨x25, hx25⟩ := cL (show ln < g.order.length from by rw [(cq (qp (a6 h8))).2.2.2.2.1]; exact ta h18)
    refine Ib (e := 74) (m := 1) ho hx25 rfl rfl rfl rfl (fun _ => rfl) (fun p25 vs25 hp25 hl25 hr25 => ?_)
    have hr25' := hr25; obtain ⟨v25, rfl, hk25⟩ := hr25'
    refine aa rfl (Ih hst hp25 rfl rfl) rfl (lA (R := kR) (m := 2) (e := 67) (len1 := 1) hst hk25 kR.leaf (by have := hbo _ (List.mem_of_getElem? hx25); omega) rfl (by decide) (.inl rfl) rfl rfl rfl rfl rfl (by kernel_rfl) (by kernel_rfl) (by kernel_rfl) rfl rfl (fun _ => rfl) (fun σ b9 c9 news e9 hst hl9 hr9 hc9 => ?_))
    refine vQ 1 rfl (nT (aB ?_))
    exact ay rfl rfl ⟨[(b9, bF.row ([AV.int .i64 0, AV.int .i64 (.ofNat ln)] ++ news) e9 false)], by rw [eL (a6 h8) hx25]; exact py (l1 := [⟨0, .ofNat ln⟩]) (ei := [AV.int .i64 0, AV.int .i64 (.ofNat ln)]) rfl (fun i x hx => by cases i with | zero => (cases hx; rfl) | succ i => (simp at hx)) hl9 hr9 rfl hc9 (by show 1 + x25.length ≤ 1048576; have := hbo _ (List.mem_of_getElem? hx25); omega), hst.sub (.cons_cons _ (.cons _ (.refl _)))⟩
theorem Db {G : Cx} {K : KP} {l : List cW} {x : cW} {i n b vb e : Nat} (hn : l.length = n) (hi : i < n) (hle : n ≤ 1000000) {σ : av} {L : Own} (hst : St σ K ((b, .row (bU l) e false) :: (vb, .row (ints x.ints) 67 false) :: L)) :
  ru Tryz.prog G 70 [.slice b 0 n (.known n), .int .i64 (.ofNat i), .slice vb 0 1 (.known 1)] σ fun v σ' => ∃ b1, v = .slice b1 0 (n + 1) (.upto 2) ∧ St σ' K ((b1, .row (bU (l.take i ++ x :: l.drop i)) 67 false) :: (b, .row (bU l) e false) :: (vb, .row (ints x.ints) 67 false) :: L) := by
 refine wV (f := 70) Tryz.func70 rfl (t := ((PT.leaf.put (some (.slice b 0 n (.known n))) 0).put (some (.int .i64 (.ofNat i))) 1).put (some (.slice vb 0 1 (.known 1))) 2) (by rfl) (aj (ah rfl (vQ 1 rfl (nS rfl (vQ 2 rfl (aa rfl (sC (e := 67) (sz := 2) (by kernel_rfl) (by kernel_rfl) rfl (iK rfl (Nat.le_of_lt hi)) hi) rfl (nT (aj (ah rfl ?_)))))))))
 refine vQ 1 rfl (aa rfl (oo rfl rfl rfl (e := 67) (by kernel_rfl) rfl) rfl (vQ 1 rfl (nT (aj (aj (ah rfl (vQ 1 rfl (aa rfl (aA (v := .bool false) rfl rfl rfl) rfl (nT (aI rfl (aF ?_)))))))))))
 refine ad (aj (ah rfl (vQ 1 rfl (aa rfl (oo rfl rfl rfl (e := 67) (by kernel_rfl) rfl) rfl (vQ 1 rfl (nT (aj (aj (ah rfl (vQ 2 rfl (aa rfl (aA (v := .bool false) rfl rfl (by show some (AV.bool (bk (.ofNat i) (.ofNat n))) = _; rw [gE]; simp; omega)) rfl (af ?_))))))))))))
 refine ad (aI rfl (aF (ad (aj (aj (ah rfl (vQ 4 rfl (aa rfl (FF rfl rfl rfl (e := 67) (by kernel_rfl) rfl rfl) rfl (aa rfl (aA (v := .bool true) rfl rfl (by show some (AV.bool (cd (.ofNat n) (wr .i64 (Int.add (.ofNat n) (.ofNat 1))))) = _; rw [bg (by omega), jV]; simp)) rfl (nT (aC rfl (aj ?_))))))))))))
 refine ah rfl (vQ 2 rfl (aa rfl (sC (e := 67) (sz := 2) (by kernel_rfl) (by kernel_rfl) rfl (lS rfl (Nat.le_of_lt hi)) (by omega)) rfl (vQ 5 rfl ?_)))
 refine Co hst rfl (BQ (e := 67) (sz := 2) (w := 16) (zs := [.int .i64 0, .int .i64 0]) (b := b) (n := n + 1 - i) (len := i) (cp := n) (m := n + 1) (k2 := .i64) rfl rfl rfl rfl (by kernel_rfl) (by kernel_rfl) (by kernel_rfl) (by kernel_rfl) (by kernel_rfl) rfl (congrArg (fun z => some (AV.int .i64 z)) ((congrArg (fun z => wr .i64 (Int.sub z (.ofNat i))) (bg (by omega))).trans (nj (by omega) (by omega)))) (hst.get 0 rfl) (by omega) (by omega) (by omega) (by omega) (by decide) (by decide) rfl (by rw [db]; omega) (by omega)) (fun _ => rfl) (fun σ b3 hst => ?_)
 obtain ⟨Z, hZ, hZl⟩ : ∃ Z, dT [.int .i64 0, .int .i64 0] (n + 1 - i) = Z ∧ Z.length = (n + 1 - i) * 2 := ⟨_, rfl, by rw [ky]; rfl⟩
 rw [qJ, hZ] at hst
 have hAl : (bU (l.take i)).length = i * 2 := by rw [db, List.length_take]; omega
 have hBl : (bU (l.drop i)).length = (n - i) * 2 := by rw [db, List.length_drop]; omega
 refine vQ 1 rfl (nS rfl (vQ 2 rfl (aa rfl (sy (e := 67) (sz := 2) (by kernel_rfl) (by kernel_rfl) rfl (iK rfl (by omega))) rfl (vQ 1 rfl (aa rfl (wq (e := 67) (sz := 2) (Ba := 1) (n := 1) (news := ints x.ints) (cells' := bU (l.take i) ++ (ints x.ints ++ Z.drop 2)) rfl rfl rfl (by kernel_rfl) (by kernel_rfl) rfl rfl (rK (len := 1) (hst.get 2 rfl) (show 0 + 1 * 2 ≤ (ints x.ints).length from Nat.le_refl 2)) (by show Nat.min 1 (n + 1 - i) = 1; exact Nat.min_eq_left (by omega)) (by decide) (hst.get 0 rfl) (show bQ (ints x.ints) = true from iW _) (by decide) (by show 0 + i * 2 + 2 ≤ _; rw [List.length_append]; omega) (p4 (X := ints x.ints) (by omega) (by show 2 ≤ _; omega))) rfl ?_)))))
 replace hst := hst.lP (.row (bU (l.take i) ++ (ints x.ints ++ Z.drop 2)) 67 false)
 refine nT (aj (aR (l := [(0, []), (1, []), (2, []), (3, []), (4, []), (5, []), (6, []), (7, []), (8, [])]) (by kernel_rfl) (by kernel_rfl) (wQ 4 rfl (an rfl rfl (sy (e := 67) (sz := 2) (by kernel_rfl) (by kernel_rfl) rfl (iK (congrArg (fun z => some (AV.int .i64 z)) (bg (by omega))) (by omega))) rfl (wQ 2 rfl (an rfl rfl (sC (e := 67) (sz := 2) (by kernel_rfl) (by kernel_rfl) rfl (iK rfl (Nat.le_of_lt hi)) hi) rfl ?_))))))
 refine eU rfl rfl (wq (e := 67) (sz := 2) (Ba := n - i) (n := n - i) (news := bU (l.drop i)) (cells' := bU (l.take i ++ x :: l.drop i)) rfl rfl rfl (by kernel_rfl) (by kernel_rfl) rfl rfl (by rw [rK (len := n - i) (hst.get 1 rfl) (by rw [db]; omega), Nat.zero_add, mP, List.take_of_length_le (by omega)]) (by show Nat.min (n - i) (n + 1 - (i + 1)) = n - i; exact Nat.min_eq_left (by omega)) (by omega) (hst.get 0 rfl) (by rw [List.take_of_length_le (by omega)]; exact q9 _) (by decide) (by rw [List.take_of_length_le (by omega), List.length_append, List.length_append, List.length_drop]; show _ ≤ _ + (2 + _); omega) (by rw [List.take_of_length_le (by omega), Ah (by show _ = _ + 2; omega) (by rw [List.length_drop]; omega), ow, eE])) rfl ⟨aY, ?_⟩
 replace hst := hst.lP (.row (bU (l.take i ++ x :: l.drop i)) 67 false)
 refine ba (ad (aj (ah rfl (vQ 2 rfl (nT (aB (au (?_))))))))
 exact ay rfl rfl ⟨b3, rfl, hst⟩
theorem Gv {G : Cx} (hov : G.ov 106 = true) {K : KP} {l : List cW} {x : cW} {i n b vb : Nat} (hn : l.length = n) (hi : i < n) (hle : n ≤ 1000000) (hne : b ≠ vb) {σ : av} {L : Own} (hst : St σ K ((b, .row (bU l ++ [AV.any, AV.any]) 67 false) :: (vb, .row (ints x.ints) 67 false) :: L)) :
  ru Tryz.prog G 70 [.slice b 0 n (.least (n + 1) 2), .int .i64 (.ofNat i), .slice vb 0 1 (.known 1)] σ fun v σ' => v = .slice b 0 (n + 1) (.least (n + 1) 2) ∧ St σ' K ((b, .row (bU (l.take i ++ x :: l.drop i)) 67 false) :: (vb, .row (ints x.ints) 67 false) :: L) := by
 have hAl : (bU (l.take i)).length = i * 2 := by rw [db, List.length_take]; omega
 have hBl : (bU (l.drop i)).length = (n - i) * 2 := by rw [db, List.length_drop]; omega
 obtain ⟨C1, C2, hC, hC1, hC2⟩ : ∃ C1 C2 : List AV, C1 ++ C2 = bU (l.drop i) ++ [AV.any, AV.any] ∧ C1.length = 2 ∧ C2.length = (bU (l.drop i)).length :=
  ⟨(bU (l.drop i) ++ [AV.any, AV.any]).take 2, (bU (l.drop i) ++ [AV.any, AV.any]).drop 2, List.take_append_drop _ _, by rw [List.length_take, List.length_append]; show min 2 (_ + 2) = 2; omega, by rw [List.length_drop, List.length_append]; show _ + 2 - 2 = _; omega⟩
 have hrow : bU l ++ [AV.any, AV.any] = bU (l.take i) ++ (C1 ++ C2) := by rw [hC, ← List.append_assoc, ← ow, List.take_append_drop]
 rw [hrow] at hst
 refine wV (f := 70) Tryz.func70 rfl (t := ((PT.leaf.put (some (.slice b 0 n (.least (n + 1) 2))) 0).put (some (.int .i64 (.ofNat i))) 1).put (some (.slice vb 0 1 (.known 1))) 2) (by rfl) (aj (ah rfl (vQ 1 rfl (nS rfl (vQ 2 rfl (aa rfl (kW (e := 67) (sz := 2) (by kernel_rfl) (by kernel_rfl) rfl (iK rfl (Nat.le_of_lt hi)) (by omega) (by omega)) rfl (nT (aj (ah rfl ?_)))))))))
 refine vQ 1 rfl (aa rfl (oo rfl rfl rfl (e := 67) (by kernel_rfl) rfl) rfl (vQ 1 rfl (nT (aj (aj (ah rfl (vQ 1 rfl (aa rfl (aA (v := .bool false) rfl rfl rfl) rfl (nT (aI rfl (aF ?_)))))))))))
 refine ad (aj (ah rfl (vQ 1 rfl (aa rfl (oo rfl rfl rfl (e := 67) (by kernel_rfl) rfl) rfl (vQ 1 rfl (nT (aj (aj (ah rfl (vQ 2 rfl (aa rfl (aA (v := .bool false) rfl rfl (by show some (AV.bool (bk (.ofNat i) (.ofNat n))) = _; rw [gE]; simp; omega)) rfl (af ?_))))))))))))
 refine ad (aI rfl (aF (ad (aj (aj (ah rfl (vQ 4 rfl (aa rfl (FF rfl rfl rfl (e := 67) (by kernel_rfl) rfl rfl) rfl (aa rfl (aA (v := .bool false) rfl rfl (by rw [bg (by omega)]; show (bif Nat.ble (n + 1) (n + 1) then some (AV.bool false) else none) = _; rw [show Nat.ble (n + 1) (n + 1) = true from by rw [Nat.ble_eq]; exact Nat.le_refl _]; rfl)) rfl (nT (aI rfl (aF ?_))))))))))))
 refine ad (aj (ah rfl (vQ 4 rfl (aa rfl (kW (e := 67) (sz := 2) (by kernel_rfl) (by kernel_rfl) rfl (lS (congrArg (fun z => some (AV.int .i64 z)) (bg (by omega))) (by omega)) (by omega) (by omega)) rfl (vQ 1 rfl (nT (aj (aj (ah rfl (vQ 5 rfl (aa rfl (kW (e := 67) (sz := 2) (len := n + 1) (a := n + 1) (by kernel_rfl) (by kernel_rfl) rfl (iK (congrArg (fun z => some (AV.int .i64 z)) (bg (by omega))) (by omega)) (by omega) (by omega)) rfl (aa rfl (zw rfl rfl (by kernel_rfl) hov (by kernel_rfl) rfl rfl rfl (hst.get 1 rfl) (hst.get 0 rfl) (Ne.symm hne) rfl rfl (by rw [List.length_append, List.length_append]; omega)) rfl ?_))))))))))))
 refine aa rfl (dI rfl) rfl (nT (aC rfl (aj (aR (l := [(0, []), (1, []), (2, []), (3, []), (4, []), (5, []), (6, []), (7, []), (8, [])]) (by kernel_rfl) (by kernel_rfl) (wQ 4 rfl (an rfl rfl (kW (e := 67) (sz := 2) (len := n + 1) (a := n + 1) (by kernel_rfl) (by kernel_rfl) rfl (iK (congrArg (fun z => some (AV.int .i64 z)) (bg (by omega))) (by omega)) (by omega) (by omega)) rfl (wQ 2 rfl (an rfl rfl (kW (e := 67) (sz := 2) (len := n + 1) (a := n + 1) (by kernel_rfl) (by kernel_rfl) rfl (iK rfl (by omega)) (by omega) (by omega)) rfl ?_))))))))
 refine eU rfl rfl (wq (e := 67) (sz := 2) (Ba := n - i) (n := n + 1 - i) (news := C1 ++ C2) (cells' := bU (l.take i) ++ (C1 ++ bU (l.drop i))) rfl rfl rfl (by kernel_rfl) (by kernel_rfl) rfl rfl (by rw [rK (len := n + 1 - i) (hst.get 0 rfl) (by rw [List.length_append, List.length_append]; omega), show 0 + 0 * 2 + i * 2 = (bU (l.take i)).length from by omega, List.drop_left, List.take_of_length_le (by rw [List.length_append]; omega)]) (by show Nat.min (n + 1 - i) (n + 1 - (i + 1)) = n - i; rw [show n + 1 - (i + 1) = n - i by omega]; exact Nat.min_eq_right (by omega)) (by omega) (hst.get 0 rfl) (by rw [hC, ← hBl, List.take_left]; exact q9 _) (by decide) (by rw [hC, ← hBl, List.take_left, List.length_append, ← hC, List.length_append]; omega) (by rw [hC, ← hBl, List.take_left, ← hC]; exact Ah (by omega) hC2)) rfl ⟨aY, ?_⟩
 replace hst := hst.lP (.row (bU (l.take i) ++ (C1 ++ bU (l.drop i))) 67 false)
 refine ba (ad (aj (ah rfl (vQ 2 rfl (aa rfl (kW (e := 67) (sz := 2) (len := n + 1) (a := n + 1) (by kernel_rfl) (by kernel_rfl) rfl (iK rfl (by omega)) (by omega) (by omega)) rfl (vQ 1 rfl (aa rfl (wq (e := 67) (sz := 2) (Ba := 1) (n := 1) (news := ints x.ints) (cells' := bU (l.take i ++ x :: l.drop i)) rfl rfl rfl (by kernel_rfl) (by kernel_rfl) rfl rfl (rK (len := 1) (hst.get 1 rfl) (show 0 + 1 * 2 ≤ (ints x.ints).length from Nat.le_refl 2)) (by show Nat.min 1 (n + 1 - i) = 1; exact Nat.min_eq_left (by omega)) (by decide) (hst.get 0 rfl) (show bQ (ints x.ints) = true from iW _) (by decide) (by show 0 + 0 * 2 + i * 2 + 2 ≤ _; rw [List.length_append, List.length_append]; omega) (by rw [ow, eE]; exact E9 (X := ints x.ints) (by omega) hC1.symm)) rfl ?_)))))))
 replace hst := hst.lP (.row (bU (l.take i ++ x :: l.drop i)) 67 false)
 refine nS rfl (vQ 2 rfl (nT (aB (au (?_)))))
 exact ay rfl rfl ⟨rfl, hst⟩
theorem tL {K : KP} {x : cW} {vb e : Nat} (hvb : K vb (.row (ints x.ints) e false)) : bC K 2 kR [x] (.slice vb 0 1 (.known 1)) :=
 .inr ⟨vb, 0, _, _, e, false, rfl, .inr ⟨_, rfl, Nat.le_refl _⟩, hvb, Nat.le_refl 2, (by simp), fun i y h => by cases i with | zero => (cases h; rfl) | succ i => (simp at h)⟩
theorem Gb {G : Cx} {K : KP} {x : cW} {vb : Nat} (hvb : K vb (.row (ints x.ints) 67 false)) {σ : av} {L : Own} (hst : St σ K L) : ru Tryz.prog G 70 [.aq, .int .i64 (.ofNat 0), .slice vb 0 1 (.known 1)] σ fun v σ' => ∃ M, eG 2 67 kR [x] v M ∧ St σ' K (M ++ L) := by
 have hx := tL hvb
 refine wV (f := 70) Tryz.func70 rfl (t := ((PT.leaf.put (some (.aq)) 0).put (some (.int .i64 (.ofNat 0))) 1).put (some (.slice vb 0 1 (.known 1))) 2) (by rfl) (aj (ah rfl (vQ 1 rfl (nS rfl (vQ 2 rfl (aa rfl (C9 (e := 67) (sz := 2) (by kernel_rfl) (by kernel_rfl) rfl rfl) rfl (nT (aj (ah rfl ?_)))))))))
 refine vQ 1 rfl (aa rfl (oo rfl rfl rfl (e := 67) (by kernel_rfl) rfl) rfl (vQ 1 rfl (nT (aj (aj (ah rfl (vQ 1 rfl (aa rfl (aA (v := .bool false) rfl rfl rfl) rfl (nT (aI rfl (aF ?_)))))))))))
 refine ad (aj (ah rfl (vQ 1 rfl ?_)))
 refine aa rfl (aV (v := .int .i64 (.ofNat 0)) rfl rfl) rfl ?_
 refine vQ 1 rfl (nT (aj (aj (ah rfl (vQ 2 rfl (aa rfl (aA (v := .bool true) rfl rfl rfl) rfl (nT (aC rfl (aj (ah rfl (vQ 2 rfl ?_)))))))))))
 refine BX (R := kR) (m := 2) (e := 67) hst hx kR.leaf (by simp) (by simp) rfl rfl rfl rfl rfl (by kernel_rfl) (by kernel_rfl) (by kernel_rfl) rfl rfl (fun _ => rfl) (fun σ b9 news hst hl9 hr9 => ?_)
 refine vQ 1 rfl (nT (aB (au (?_))))
 exact ay rfl rfl ⟨[(b9, .row news 67 false)], .inr ⟨b9, .upto 2, news, 67, rfl, rfl, hl9, hr9, .inr ⟨rfl, rfl⟩, (by simp)⟩, hst⟩
theorem Fc {G : Cx} {K : KP} {x : cW} {vb : Nat} (hvb : K vb (.row (ints x.ints) 67 false)) {l : List cW} {n b e : Nat} {cells : List AV} (hn : l.length = n) (hle : n ≤ 1000000) (hcl : cells.length = l.length * 2) (hce : ∀ (i : Nat) (y : cW), l[i]? = some y → kR y ((cells.drop (i * 2)).take 2)) {σ : av} {L : Own} (hst : St σ K ((b, .row cells e false) :: L)) : ru Tryz.prog G 70 [.slice b 0 n (.known n), .int .i64 (.ofNat n), .slice vb 0 1 (.known 1)] σ fun v σ' => ∃ M, eG 2 67 kR (l ++ [x]) v M ∧ St σ' K (M ++ L) := by
 have hx := tL hvb
 refine wV (f := 70) Tryz.func70 rfl (t := ((PT.leaf.put (some (.slice b 0 n (.known n))) 0).put (some (.int .i64 (.ofNat n))) 1).put (some (.slice vb 0 1 (.known 1))) 2) (by rfl) (aj (ah rfl (vQ 1 rfl (nS rfl (vQ 2 rfl (aa rfl (De (e := 67) (sz := 2) (by kernel_rfl) (by kernel_rfl) rfl rfl) rfl (nT (aj (ah rfl ?_)))))))))
 refine vQ 1 rfl (aa rfl (oo rfl rfl rfl (e := 67) (by kernel_rfl) rfl) rfl (vQ 1 rfl (nT (aj (aj (ah rfl (vQ 1 rfl (aa rfl (aA (v := .bool false) rfl rfl rfl) rfl (nT (aI rfl (aF ?_)))))))))))
 refine ad (aj (ah rfl (vQ 1 rfl (aa rfl (oo rfl rfl rfl (e := 67) (by kernel_rfl) rfl) rfl (vQ 1 rfl (nT (aj (aj (ah rfl (vQ 2 rfl (aa rfl (aA (v := .bool true) rfl rfl (by show some (AV.bool (bk (.ofNat n) (.ofNat n))) = _; rw [gE]; simp)) rfl (af ?_))))))))))))
 refine ad (aC rfl (aj (ah rfl (vQ 2 rfl (lA (R := kR) (m := 2) (e := 67) hst hx kR.leaf (by simp) (by omega) (by omega) (.inl rfl) rfl rfl rfl rfl rfl (by kernel_rfl) (by kernel_rfl) (by kernel_rfl) rfl rfl (fun _ => rfl) (fun σ b9 c9 news e9 hst hl9 hr9 hc9 => ?_))))))
 refine vQ 1 rfl (nT (aB (au (?_))))
 exact ay rfl rfl ⟨[(b9, .row (cells ++ news) e9 false)], py hcl hce hl9 hr9 (by rw [hn]) hc9 (by show n + 1 ≤ 1048576; omega), hst⟩
theorem Ff {G : Cx} {K : KP} {x : cW} {vb : Nat} (hvb : K vb (.row (ints x.ints) 67 false)) {l : List cW} {n b : Nat} {cells : List AV} (hn : l.length = n) (hle : n ≤ 1000000) (hcl : cells.length = l.length * 2) (hce : ∀ (i : Nat) (y : cW), l[i]? = some y → kR y ((cells.drop (i * 2)).take 2)) {σ : av} {L : Own} (hst : St σ K ((b, .row cells 67 false) :: L)) : ru Tryz.prog G 70 [.slice b 0 n (.upto 2), .int .i64 (.ofNat n), .slice vb 0 1 (.known 1)] σ fun v σ' => ∃ M, eG 2 67 kR (l ++ [x]) v M ∧ St σ' K (M ++ L) := by
 have hx := tL hvb
 refine wV (f := 70) Tryz.func70 rfl (t := ((PT.leaf.put (some (.slice b 0 n (.upto 2))) 0).put (some (.int .i64 (.ofNat n))) 1).put (some (.slice vb 0 1 (.known 1))) 2) (by rfl) (aj (ah rfl (vQ 1 rfl (nS rfl (vQ 2 rfl (aa rfl (sy (e := 67) (sz := 2) (by kernel_rfl) (by kernel_rfl) rfl (iK rfl (Nat.le_refl _))) rfl (nT (aj (ah rfl ?_)))))))))
 refine vQ 1 rfl (aa rfl (oo rfl rfl rfl (e := 67) (by kernel_rfl) rfl) rfl (vQ 1 rfl (nT (aj (aj (ah rfl (vQ 1 rfl (aa rfl (aA (v := .bool false) rfl rfl rfl) rfl (nT (aI rfl (aF ?_)))))))))))
 refine ad (aj (ah rfl (vQ 1 rfl (aa rfl (oo rfl rfl rfl (e := 67) (by kernel_rfl) rfl) rfl (vQ 1 rfl (nT (aj (aj (ah rfl (vQ 2 rfl (aa rfl (aA (v := .bool true) rfl rfl (by show some (AV.bool (bk (.ofNat n) (.ofNat n))) = _; rw [gE]; simp)) rfl (af ?_))))))))))))
 refine ad (aC rfl (aj (ah rfl (vQ 2 rfl (lA (R := kR) (m := 2) (e := 67) hst hx kR.leaf (by simp) (by omega) (by omega) (.inr ⟨rfl, rfl⟩) rfl rfl rfl rfl rfl (by kernel_rfl) (by kernel_rfl) (by kernel_rfl) rfl rfl (fun _ => rfl) (fun σ b9 c9 news e9 hst hl9 hr9 hc9 => ?_))))))
 refine vQ 1 rfl (nT (aB (au (?_))))
 exact ay rfl rfl ⟨[(b9, .row (cells ++ news) e9 false)], py hcl hce hl9 hr9 (by rw [hn]) hc9 (by show n + 1 ≤ 1048576; omega), hst⟩
theorem ru.mono {P : Program} {G : Cx} {f : Nat} {args : List AV} {σ : av} {R R' : AV → av → Prop} (h : ru P G f args σ R) (hq : ∀ v σ', R v σ' → R' v σ') : ru P G f args σ R' :=
 let ⟨K, v, σ', h1, h2⟩ := h; ⟨K, v, σ', h1, hq _ _ h2⟩
theorem rB {l : List cW} {x : cW} {i : Nat} (hi : i ≤ l.length) : (l.take i ++ x :: l.drop i).length = l.length + 1 := by
 rw [List.length_append, List.length_take, List.length_cons, List.length_drop]; omega
theorem tg {l : List cW} {b n e : Nat} {c : nk} (hn : n = l.length) (hc : c = .known n ∨ (c = .upto 2 ∧ e = 67)) (hle : n ≤ 1048576) : eG 2 67 kR l (.slice b 0 n c) [(b, .row (bU l) e false)] := by
 subst hn
 exact .inr ⟨b, c, _, e, rfl, rfl, db l, fun i y h => Bd h, hc, hle⟩
theorem uP {P : Program} {G : Cx} {ih : fP} {f : Nat} {σ : av} {b n : Nat} {c : nk} {w : AV} : mM P G ih f [.slice b 0 n c, .int .i64 (.ofNat n), w] σ = iv P G ih f [.slice b 0 n c, .int .i64 (.ofNat n), w] σ := by
 unfold mM
 rw [show atEnd [.slice b 0 n c, .int .i64 (.ofNat n), w] = true from Nat.beq_refl n]
 rfl
theorem wU {P : Program} {G : Cx} {ih : fP} {f : Nat} {σ : av} {b n i m : Nat} {w : AV} (hi : i < n) : mM P G ih f [.slice b 0 n (.known m), .int .i64 (.ofNat i), w] σ = iv P G ih f [.slice b 0 n (.known m), .int .i64 (.ofNat i), w] σ := by
 unfold mM
 rw [show atEnd [.slice b 0 n (.known m), .int .i64 (.ofNat i), w] = false from by
  show Nat.beq i n = false
  cases hh : Nat.beq i n with
  | false => rfl
  | true => exact absurd (Nat.eq_of_beq_eq_true hh) (by omega)]
 rfl
theorem DA {G : Cx} (hG : Plain G) (hfk : G.fk 70 = true) (hov : G.ov 106 = true) {K : KP} {l : List cW} {x : cW} {i vb : Nat} {u : AV} {M : Own} (hvb : K vb (.row (ints x.ints) 67 false)) (ho : eG 2 67 kR l u M) (hi : i ≤ l.length) (hle : l.length ≤ 1000000) {σ : av} {L : Own} (hst : St σ K (M ++ L)) :
  a7 Tryz.prog G 70 [u, .int .i64 (.ofNat i), .slice vb 0 1 (.known 1)] σ fun v σ' => ∃ M', eG 2 67 kR (l.take i ++ x :: l.drop i) v M' ∧ St σ' K (M' ++ L) := by
 rcases ho with ⟨rfl, rfl, rfl⟩ | ⟨b, c, cells, e, rfl, rfl, h3, h4, h5, h6⟩
 ·obtain rfl : i = 0 := by simpa using hi
  exact pO hG hfk (fun ih => rfl) (Gb hvb hst)
 ·by_cases hin : i = l.length
  ·subst hin
   rw [List.take_length, List.drop_length]
   rcases h5 with rfl | ⟨rfl, rfl⟩
   ·exact pO hG hfk (fun ih => uP) (Fc hvb rfl hle h3 h4 hst)
   ·exact pO hG hfk (fun ih => uP) (Ff hvb rfl hle h3 h4 hst)
  ·have hlt : i < l.length := by omega
   obtain rfl := uN l cells h3 h4
   have hne : b ≠ vb := (hst.kept _ _ hvb).2.2 _ (List.mem_cons_self ..)
   have hgv := (hst.kept _ _ hvb)
   rcases h5 with rfl | ⟨rfl, rfl⟩
   ·refine pO hG hfk (fun ih => wU hlt) ((Db (K := K.sub vb) rfl hlt hle ((hst.Gw hvb).perm (List.Perm.swap ..))).mono fun v σ' h => ?_)
    obtain ⟨b1, rfl, hs⟩ := h
    exact ⟨_, tg (rB hi).symm (.inr ⟨rfl, rfl⟩) (by omega), St.Gi hst hvb ((hs.sub (.cons_cons _ (.cons _ (.refl _)))).perm (List.Perm.swap ..))⟩
   ·have htwo := @St.two _ σ b vb (.row (bU l) 67 false) (.row (ints x.ints) 67 false) (.row (bU l) 67 false) (.row (ints x.ints) 67 false) (hst.own _ (List.mem_cons_self ..)).1 hgv.1 hne
    have hfin : ((l.take i ++ x :: l.drop i).flatMap cW.ints).length = (l.length + 1) * 2 := by rw [← qW, ← km, db, rB hi]
    have hcut : ∀ (cs : List AV), cs = bU (l.take i ++ x :: l.drop i) → (l.length + 1) * 2 ≤ cs.length ∧ cs.take ((l.length + 1) * 2) = ints ((l.take i ++ x :: l.drop i).flatMap cW.ints) := fun cs h => by
     subst h
     have := db (l.take i ++ x :: l.drop i)
     rw [rB hi] at this
     exact ⟨by omega, by rw [List.take_of_length_le (by omega), km]⟩
    refine Ds (e := 67) (ve := 67) (cells := bU l) (vc := x.ints) (rs := (l.take i ++ x :: l.drop i).flatMap cW.ints) (n1 := l.length + 1) hG hfk (by omega) hlt hne (hst.get 0 rfl) hgv.2.1 (by rw [db]; exact Nat.le_refl _) (by omega) hfin ?_ ?_ ?_
    ·refine (Db (K := fun _ _ => False) rfl hlt hle htwo).mono fun v σ' h => ?_
     obtain ⟨b1, rfl, hs⟩ := h
     exact ⟨b1, _, rfl, (List.pairwise_cons.1 hs.ne).1 (vb, .row (ints x.ints) 67 false) (by simp), hs.get 0 rfl, hs.get 2 rfl, (hcut _ rfl).1, (hcut _ rfl).2⟩
    ·have hrow : (bU l).take (l.length * 2) ++ List.replicate 2 AV.any = bU l ++ [AV.any, AV.any] := by rw [List.take_of_length_le (by rw [db]; exact Nat.le_refl _)]; rfl
     rw [hrow]
     have htwo2 := @St.two _ σ b vb (.row (bU l ++ [AV.any, AV.any]) 67 false) (.row (ints x.ints) 67 false) (.row (bU l ++ [AV.any, AV.any]) 67 false) (.row (ints x.ints) 67 false) (hst.own _ (List.mem_cons_self ..)).1 hgv.1 hne
     refine (Gv hov (K := fun _ _ => False) rfl hlt hle hne htwo2).mono fun v σ' h => ?_
     obtain ⟨rfl, hs⟩ := h
     exact ⟨b, _, _, rfl, Nat.le_refl _, hne, hs.get 0 rfl, hs.get 1 rfl, (hcut _ rfl).1, (hcut _ rfl).2⟩
    ·refine ⟨[(σ.next, .row (ints ((l.take i ++ x :: l.drop i).flatMap cW.ints)) 67 false)], ?_, hst.tt _⟩
     rw [← km]
     exact tg (rB hi).symm (.inr ⟨rfl, rfl⟩) (by omega)
end Go.Ev
namespace Go.Ev
variable [Env]
theorem mF {K : KP} {E1 E2 T1 T2 T3 : Nat} {g : XG} {u1 : AV} {M1 M2 M3 M4 : Own} {b2 b3 b4 n2 n3 n4 : Nat} {us2 us3 us4 : List AV} (h1 : eG 1 2 dE g.init u1 M1) (h2 : fz 5 E1 kQ g.threads us2 M2) (h3 : fz 2 E2 kR g.from_ us3 M3) (h4 : fz 2 E2 kR g.order us4 M4)
  (k1 : ∀ e ∈ M1, K e.1 e.2) (k2 : ∀ e ∈ M2, K e.1 e.2) (k3 : ∀ e ∈ M3, K e.1 e.2) (k4 : ∀ e ∈ M4, K e.1 e.2) (q2 : K b2 (.row us2 T1 false)) (q3 : K b3 (.row us3 T2 false)) (q4 : K b4 (.row us4 T3 false))
  (e2 : n2 = g.threads.length) (e3 : n3 = g.from_.length) (e4 : n4 = g.order.length) (l2 : g.threads.length ≤ 1048576) (l3 : g.from_.length ≤ 1048576) (l4 : g.order.length ≤ 1048576) : eX K g u1 (.slice b2 0 n2 (.known n2)) (.slice b3 0 n3 (.known n3)) (.slice b4 0 n4 (.known n4)) :=
 ⟨h1.kx k1, h2.kx k2 q2 e2 l2, h3.kx k3 q3 e3 l3, h4.kx k4 q4 e4 l4⟩
end Go.Ev
namespace Go.Ev
variable [Env]
open Go.Proofs
set_option maxRecDepth 4000
set_option maxHeartbeats 8000000
theorem wx {g : XG} (h : bJ g = 0) : Gf g := by
 obtain ⟨b1, b2, b3, b4, b5, b6, b7⟩ := cq h
 exact ⟨by omega, by omega, fun l hl => by have := b3 l hl; omega, by omega, fun l hl => by have := mR b6 b4 b3 l hl; omega, by omega, fun l hl => by have := kY h l hl; omega⟩
def AM (K : KP) (L : Own) (g : XG) (th : Int) (e : cS) (fr : cW) (pl : Int) (v : AV) (σ' : av) : Prop :=
 (∃ er, fm g th e fr pl = (none, er) ∧ v = .tuple [.agg [.aq, .aq, .aq, .aq], .int .i64 er] ∧ St σ' K L) ∨
 (∃ g' a' b' c' d' M, fm g th e fr pl = (some g', 0) ∧ v = .tuple [.agg [a', b', c', d'], .int .i64 0] ∧ eX (K.nM M) g' a' b' c' d' ∧ St σ' K (M ++ L))
theorem tO {G : Cx} (hG : Plain G) {K : KP} {L MM : Own} {σ : av} {g : XG} {a b c d : AV} (hst : St σ K (MM ++ L)) (h : eX (K.nM MM) g a b c d) : a7 Tryz.prog G 45 [.agg [a, b, c, d]] σ fun v σ' => v = .int .i64 (bJ g) ∧ St σ' K (MM ++ L) :=
 (rA hG h hst.keeps).mono fun _ _ hh => ⟨hh.1, St.Ak hst hh.2⟩
theorem CT {K : KP} {L MM : Own} {σ : av} {g g' : XG} {th pl : Int} {e : cS} {fr : cW} {a b c d : AV} (ha : fm g th e fr pl = (some g', 0)) (hst : St σ K (MM ++ L)) (h : eX (K.nM MM) g' a b c d) : AM K L g th e fr pl (.tuple [.agg [a, b, c, d], .int .i64 0]) σ := .inr ⟨g', a, b, c, d, MM, ha, rfl, h, hst⟩
theorem nr {α : Type} {K : KP} {R : α → List AV → Prop} {x : α} {m vb e : Nat} {cs : List AV} (hR : R x cs) (hm : cs.length = m) (hvb : K vb (.row cs e false)) : bC K m R [x] (.slice vb 0 1 (.known 1)) := by
 subst hm
 refine .inr ⟨vb, 0, _, _, e, false, rfl, .inr ⟨_, rfl, Nat.le_refl _⟩, hvb, ?_, (by simp), fun i y h => ?_⟩
 ·rw [List.length_singleton]; omega
 ·cases i with
  | zero => simp only [List.getElem?_cons_zero, Option.some.injEq] at h; subst h; rw [Nat.zero_mul, Nat.zero_add, List.drop_zero, List.take_length]; exact hR
  | succ i => simp at h
theorem uS {G : Cx} (hG : Plain G) (hfk : G.fk 70 = true) (hov : G.ov 106 = true) {K : KP} {g : XG} {a b c d : AV} (h : eX K g a b c d) (th pl : Int) (e : cS) (fr : cW) {σ : av} {L : Own} (hst : St σ K L) : a7 Tryz.prog G 38 [.agg [a, b, c, d], .int .i64 th, .agg [.int .i64 e.kind, .int .i64 e.loc, .int .i64 e.order, .int .i64 e.read, .int .i64 e.write], .agg [.int .i64 fr.lY, .int .i64 fr.index], .int .i64 pl] σ (AM K L g th e fr pl) := by
 have h' := h; obtain ⟨hi, ht, hf, ho⟩ := h'
 refine a8 hG Tryz.func38 rfl (t := ((((PT.leaf.put (some (.agg [a, b, c, d])) 0).put (some (.int .i64 th)) 1).put (some (.agg [.int .i64 e.kind, .int .i64 e.loc, .int .i64 e.order, .int .i64 e.read, .int .i64 e.write])) 2).put (some (.agg [.int .i64 fr.lY, .int .i64 fr.index])) 3).put (some (.int .i64 pl)) 4) (by rfl) (aj (ah rfl (bp hst rfl (cU rfl rfl) (fun _ => rfl) (fun σ b1 hst => ?_))))
 refine bp hst rfl (cU rfl rfl) (fun _ => rfl) (fun σ b2 hst => ?_)
 refine bp hst rfl (cU rfl rfl) (fun _ => rfl) (fun σ b3 hst => ?_)
 refine bp hst rfl (Ix (cs := [.aq, .aq, .aq, .aq])) (fun _ => rfl) (fun σ b4 hst => ?_)
 refine vQ 1 rfl (nT (aj (aj (ah rfl (aa rfl (IC rfl (hst.get 3 rfl) (n := 4) (vs := [_, _, _, _]) rfl) rfl (a9 rfl (It rfl rfl rfl) (fun _ => rfl) (rA hG h  hst) (fun σ hst => ?_)))))))
 refine vQ 1 rfl (nT (aE rfl (fun h16 => ?_) (fun h16 => ?_)))
 ·refine aj (ah rfl (aa rfl (Is (places := [(0, 1), (1, 1), (2, 1), (3, 1)]) (zero := [.aq, .aq, .aq, .aq]) (cs := [_, _, _, _]) rfl) rfl (bA hst rfl (Io rfl rfl rfl (hst.get 0 rfl) (m := 4) rfl rfl (cells' := [_, _, _, _]) rfl) rfl (fun σ hst => ?_))))
  refine vQ 1 rfl (nT (aB (au (?_))))
  exact bm rfl rfl (hst.get 0 rfl) (m := 4) (by kernel_rfl) rfl rfl (.inl ⟨_, xZ (bM h16), rfl, hst.pop.pop.pop.pop⟩)
 ·refine aF (ad (aj (aj (ah rfl (vQ 2 rfl (aL rfl (al rfl) (fun _ => rfl) (fun h20 => ?_) (fun h20 => ?_)))))))
  ·refine vQ 6 rfl (nT (aC rfl (aj (ah rfl (aa rfl (Is (places := [(0, 1), (1, 1), (2, 1), (3, 1)]) (zero := [.aq, .aq, .aq, .aq]) (cs := [_, _, _, _]) rfl) rfl (bA hst rfl (Io rfl rfl rfl (hst.get 0 rfl) (m := 4) rfl rfl (cells' := [_, _, _, _]) rfl) rfl (fun σ hst => ?_)))))))
   refine vQ 1 rfl (nT (aB (au (?_))))
   exact bm rfl rfl (hst.get 0 rfl) (m := 4) (by kernel_rfl) rfl rfl (.inl ⟨_, wL (a6 h16) h20, rfl, hst.pop.pop.pop.pop⟩)
  ·refine vQ 1 rfl (aa rfl (Iz 1 rfl) rfl (aa rfl (Ia rfl (hst.get 3 rfl) rfl) rfl (aa rfl (H9 ht rfl rfl rfl (e := 57) rfl) rfl (vQ 2 rfl (nT (aE rfl (fun h26 => ?_) (fun h26 => ?_)))))))
   ·refine aj (ah rfl (aa rfl (Is (places := [(0, 1), (1, 1), (2, 1), (3, 1)]) (zero := [.aq, .aq, .aq, .aq]) (cs := [_, _, _, _]) rfl) rfl (bA hst rfl (Io rfl rfl rfl (hst.get 0 rfl) (m := 4) rfl rfl (cells' := [_, _, _, _]) rfl) rfl (fun σ hst => ?_))))
    refine vQ 1 rfl (nT (aB (au (?_))))
    exact bm rfl rfl (hst.get 0 rfl) (m := 4) (by kernel_rfl) rfl rfl (.inl ⟨_, xh (a6 h16) h20 h26, rfl, hst.pop.pop.pop.pop⟩)
   ·obtain ⟨tm, rfl⟩ := mI h20
    have htm : tm < g.threads.length := by have := pE h26; omega
    obtain ⟨x33, hx33⟩ := cL htm
    obtain ⟨xf, hxf⟩ := cL (show tm < g.from_.length from by rw [(cq (qp (a6 h16))).2.2.2.1]; exact htm)
    refine aF (ad (aj (ah rfl (vQ 1 rfl (aa rfl (Iz 1 rfl) rfl (aa rfl (Ia rfl (hst.get 3 rfl) rfl) rfl (vQ 2 rfl (Ib (e := 57) (m := 1) ht hx33 rfl rfl rfl (congrArg (fun z => some (AV.int .i64 z)) (fj (by have := ht.bG; omega))) (fun _ => rfl) (fun p33 vs33 hp33 hl33 hr33 => ?_)))))))))
    have hr33' := hr33; obtain ⟨v33, rfl, hk33⟩ := hr33'
    refine aa rfl (Ih hst hp33 rfl rfl) rfl (aa rfl (H9 hk33 rfl rfl rfl (e := 56) rfl) rfl (aa rfl (Is (places := [(0, 1), (1, 1)]) (zero := [.int .i64 0, .int .i64 0]) (cs := [_, _]) rfl) rfl (bp hst rfl (Ix (cs := [.int .i64 0, .int .i64 0])) (fun _ => rfl) (fun σ b5 hst => ?_))))
    refine bA hst rfl (Io rfl rfl rfl (hst.get 0 rfl) (m := 2) rfl rfl (cells' := [_, _]) rfl) rfl (fun σ hst => ?_)
    refine nT (aj (aj (ah rfl (aa rfl (Iz 1 rfl) rfl (aa rfl (Ia rfl (hst.get 0 rfl) rfl) rfl (vQ 1 rfl (nT (aE rfl (fun h39 => ?_) (fun h39 => ?_)))))))))
    ·refine aj (ah rfl (aa rfl (Is (places := [(0, 1), (1, 1), (2, 1), (3, 1)]) (zero := [.aq, .aq, .aq, .aq]) (cs := [_, _, _, _]) rfl) rfl (dY hst rfl (Io rfl rfl rfl (hst.get 1 rfl) (m := 4) rfl rfl (cells' := [_, _, _, _]) rfl) rfl (fun σ hst => ?_))))
     refine vQ 1 rfl (nT (aB (au (?_))))
     exact bm rfl rfl (hst.get 1 rfl) (m := 4) (by kernel_rfl) rfl rfl (.inl ⟨_, by rw [iX (a6 h16) hx33 hxf, show cd (.ofNat x33.length) 14 = false from bM h39]; rfl, rfl, hst.pop.pop.pop.pop.pop⟩)
    ·refine aF (ad (aj (aj (ah rfl (aa rfl (IC rfl (hst.get 3 rfl) (n := 5) (vs := [_, _, _, _, _]) rfl) rfl (a9 rfl (It rfl rfl rfl) (fun _ => rfl) (gn hG _ hst) (fun σ hst => ?_)))))))
     refine aL rfl (al rfl) (fun _ => rfl) (fun h43 => ?_) (fun h43 => ?_)
     ·refine vQ 2 rfl (aL rfl (al rfl) (fun _ => rfl) (fun h46 => ?_) (fun h46 => ?_))
      ·refine vQ 18 rfl (nT (aC rfl (aj (ah rfl (aa rfl (Is (places := [(0, 1), (1, 1), (2, 1), (3, 1)]) (zero := [.aq, .aq, .aq, .aq]) (cs := [_, _, _, _]) rfl) rfl (dY hst rfl (Io rfl rfl rfl (hst.get 1 rfl) (m := 4) rfl rfl (cells' := [_, _, _, _]) rfl) rfl (fun σ hst => ?_)))))))
       refine vQ 1 rfl (nT (aB (au (?_))))
       exact bm rfl rfl (hst.get 1 rfl) (m := 4) (by kernel_rfl) rfl rfl (.inl ⟨_, by rw [iX (a6 h16) hx33 hxf, show cd (.ofNat x33.length) 14 = true from a6 h39]; show (bif cB g e pl then _ else _) = _; rw [show cB g e pl = true from by unfold cB; rw [h43]; show (bif cd pl 1 then true else _) = true; rw [h46]; rfl]; rfl, rfl, hst.pop.pop.pop.pop.pop⟩)
      ·refine vQ 1 rfl (aa rfl (IC rfl (hst.get 4 rfl) (n := 4) (vs := [_, _, _, _]) rfl) rfl (aa rfl (Iz 1 rfl) rfl (aa rfl (Ia rfl (hst.get 3 rfl) rfl) rfl (cJ rfl (It rfl rfl rfl) (fun _ => rfl) (pC hG h (fun l hl => by have := kY (qp (a6 h16)) l hl; omega) _ hst) ?_))))
       rintro u51 σ ⟨M51, hM51, hst⟩
       replace hst := hst.bl
       refine aa rfl (Gl hM51 rfl rfl rfl (e := 67) (by kernel_rfl) rfl) rfl (vQ 3 rfl (aL rfl (al rfl) (fun _ => rfl) (fun h56 => ?_) (fun h56 => ?_)))
       ·refine vQ 8 rfl (nT (aC rfl (aj (ah rfl (aa rfl (Is (places := [(0, 1), (1, 1), (2, 1), (3, 1)]) (zero := [.aq, .aq, .aq, .aq]) (cs := [_, _, _, _]) rfl) rfl (dY hst rfl (Io rfl rfl rfl (hst.get 1 rfl) (m := 4) rfl rfl (cells' := [_, _, _, _]) rfl) rfl (fun σ hst => ?_)))))))
        refine vQ 1 rfl (nT (aB (au (?_))))
        exact bm rfl rfl (hst.get 1 rfl) (m := 4) (by kernel_rfl) rfl rfl (.inl ⟨_, by rw [iX (a6 h16) hx33 hxf, show cd (.ofNat x33.length) 14 = true from a6 h39]; show (bif cB g e pl then _ else _) = _; rw [show cB g e pl = true from by unfold cB; rw [h43]; show (bif cd pl 1 then true else _) = true; rw [h46]; exact h56]; rfl, rfl, hst.pop.pop.pop.pop.pop⟩)
       ·refine aa rfl (IC rfl (hst.get 3 rfl) (n := 5) (vs := [_, _, _, _, _]) rfl) rfl (a9 rfl (It rfl rfl rfl) (fun _ => rfl) (gn hG _ hst) (fun σ hst => ?_))
        refine aa rfl (dI rfl) rfl (aL rfl (al rfl) (fun _ => rfl) (fun h60 => ?_) (fun h60 => ?_))
        ·exact absurd h43 (by rw [mn h60]; decide)
        ·refine vQ 4 rfl (nT (aI rfl (aF (ad (aj (ah rfl (aa rfl (IC rfl (hst.get 4 rfl) (n := 4) (vs := [_, _, _, _]) rfl) rfl (cJ rfl (It rfl rfl rfl) (fun _ => rfl) (sa hG h (wx (qp (a6 h16))) hst) ?_))))))))
         rintro _ σ ⟨u1, M1, b6, us2, M2, b7, us3, M3, b8, us4, M4, rfl, hO, hst⟩
         have hOt := hO.threads
         have hOf := hO.from_
         have hOo := hO.order
         refine bp hst rfl (Ix (cs := [.aq, .aq, .aq, .aq])) (fun _ => rfl) (fun σ b9 hst => ?_)
         refine bA hst rfl (Io rfl rfl rfl (hst.get 0 rfl) (m := 4) rfl (ae hO.init.leaf.2 rfl) (cells' := [_, _, _, _]) rfl) rfl (fun σ hst => ?_)
         refine nT (aj (aR (l := [(0, []), (1, []), (2, []), (3, []), (4, []), (5, []), (6, []), (7, []), (8, []), (9, []), (10, []), (11, []), (12, [1]), (13, []), (14, [])]) (by kernel_rfl) (by kernel_rfl) (an rfl rfl (Iz 1 rfl) rfl (an rfl rfl (Ia rfl (hst.get 0 rfl) rfl) rfl (wQ 2 rfl (an rfl rfl (Iz 1 rfl) rfl (an rfl rfl (Ia rfl (hst.get 0 rfl) rfl) rfl (wQ 2 rfl ?_))))))))
         obtain ⟨utt, Mtt, At, Bt, hutt, hOtt, hMMt, hsett⟩ := hOt.at hx33
         subst hMMt
         refine an rfl rfl (ej (e := 57) (m := 1) rfl (by kernel_rfl) rfl (congrArg (fun z => some (AV.int .i64 z)) (fj (by have := ht.bG; omega))) (show tm < g.threads.length from (List.getElem?_eq_some_iff.1 hx33).1)) rfl ?_
         refine an rfl rfl (ax rfl (hst.pop.bl.pop.bl.pop.bl.get 0 rfl) (by kernel_rfl) (by rw [dO, show 0 + tm * 1 = tm from by omega]; exact hutt)) rfl (an rfl rfl (IC rfl (hst.pop.bl.pop.bl.pop.bl.pop.bl.pop.pop.pop.get 0 rfl) (n := 5) (vs := [_, _, _, _, _]) rfl) rfl (sD hst rfl rfl (dy (e := 56) (m := 5) (z := [.int .i64 0, .int .i64 0, .int .i64 0, .int .i64 0, .int .i64 0]) (cs := [_, _, _, _, _]) (by kernel_rfl) (by kernel_rfl) (by kernel_rfl) (by kernel_rfl) (bL rfl rfl rfl rfl cX)) (fun _ => rfl) (fun σ b10 hst => ?_)))
         have hpl := (hst.pull (X := Mtt) (.there (.there (.eS (.there (.eS (.there fI.ot))))))).perm List.perm_middle
         obtain ⟨σ, ut2t, Mt2t, happ, hOt2t, hst⟩ := eF (P := Tryz.prog) (ts := #[57, 57]) (t := 57) (e := 56) hOtt hpl (nr (R := kQ) (x := e) (m := 5) rfl rfl (.inr ⟨rfl, rfl⟩)) kQ.leaf (by simp) (by simp) (by have := (cq (qp (a6 h16))).2.2.1 _ (List.mem_of_getElem? hx33); omega) rfl (by kernel_rfl) (by kernel_rfl) (by kernel_rfl)
         refine eU rfl rfl (dK rfl rfl rfl rfl (by kernel_rfl) happ) rfl ?_
         replace hst := hst.push (.there (.eS (.there (.eS (.there fI.ot)))))
         refine ⟨(bP (cM rfl rfl rfl rfl rfl (Ia rfl (hst.get 0 rfl) rfl) (nA _ _ _ _)) aY), ?_⟩
         refine an rfl rfl (ej (e := 57) (m := 1) rfl (by kernel_rfl) rfl (congrArg (fun z => some (AV.int .i64 z)) (fj (by have := ht.bG; omega))) (show tm < g.threads.length from (List.getElem?_eq_some_iff.1 hx33).1)) rfl ?_
         have hltt := (List.getElem?_eq_some_iff.1 hutt).1
         refine l8 hst (.there (.eS (.there (.eS (.there (.eS .here)))))) rfl rfl (iA rfl rfl hOt2t.leaf.1 (hst.pop.bl.pop.bl.pop.bl.get 0 rfl) (m := 1) (by kernel_rfl) rfl (by omega) (ae hOt2t.leaf.2 rfl)) rfl (fun σ hst => ?_)
         refine ⟨aY, ?_⟩
         rw [g0 hltt] at hst
         have hO2t := hsett _ _ _ hOt2t
         refine ba (ad (aj (aR (l := [(0, []), (1, []), (2, []), (3, []), (4, []), (5, []), (6, []), (7, []), (8, []), (9, []), (10, []), (11, []), (12, [1]), (13, []), (14, [])]) (by kernel_rfl) (by kernel_rfl) (an rfl rfl (Iz 2 rfl) rfl (an rfl rfl (Ia rfl (hst.get 0 rfl) rfl) rfl (wQ 2 rfl (an rfl rfl (Iz 2 rfl) rfl (an rfl rfl (Ia rfl (hst.get 0 rfl) rfl) rfl (wQ 2 rfl ?_)))))))))
         obtain ⟨utf, Mtf, Af, Bf, hutf, hOtf, hMMf, hsetf⟩ := hOf.at hxf
         subst hMMf
         refine an rfl rfl (ej (e := 74) (m := 1) rfl (by kernel_rfl) rfl (congrArg (fun z => some (AV.int .i64 z)) (fj (by have := ht.bG; omega))) (show tm < g.from_.length from (List.getElem?_eq_some_iff.1 hxf).1)) rfl ?_
         refine an rfl rfl (ax rfl (hst.pop.bl.pop.bl.get 0 rfl) (by kernel_rfl) (by rw [dO, show 0 + tm * 1 = tm from by omega]; exact hutf)) rfl (an rfl rfl (IC rfl (hst.pop.bl.pop.bl.pop.bl.pop.bl.pop.pop.get 0 rfl) (n := 2) (vs := [_, _]) rfl) rfl (sD hst rfl rfl (dy (e := 67) (m := 2) (z := [.int .i64 0, .int .i64 0]) (cs := [_, _]) (by kernel_rfl) (by kernel_rfl) (by kernel_rfl) (by kernel_rfl) (bL rfl rfl rfl rfl cX)) (fun _ => rfl) (fun σ b11 hst => ?_)))
         have hpl := (hst.pull (X := Mtf) (.there (.there (.eS (.there fI.ot))))).perm List.perm_middle
         obtain ⟨σ, ut2f, Mt2f, happ, hOt2f, hst⟩ := eF (P := Tryz.prog) (ts := #[74, 74]) (t := 74) (e := 67) hOtf hpl (nr (R := kR) (x := fr) (m := 2) rfl rfl (.inr ⟨rfl, rfl⟩)) kR.leaf (by simp) (by simp) (by have := mR (cq (qp (a6 h16))).2.2.2.2.2.1 (cq (qp (a6 h16))).2.2.2.1 (cq (qp (a6 h16))).2.2.1 _ (List.mem_of_getElem? hxf); omega) rfl (by kernel_rfl) (by kernel_rfl) (by kernel_rfl)
         refine eU rfl rfl (dK rfl rfl rfl rfl (by kernel_rfl) happ) rfl ?_
         replace hst := hst.push (.there (.eS (.there fI.ot)))
         refine ⟨(bP (cM rfl rfl rfl rfl rfl (Ia rfl (hst.get 0 rfl) rfl) (nA _ _ _ _)) aY), ?_⟩
         refine an rfl rfl (ej (e := 74) (m := 1) rfl (by kernel_rfl) rfl (congrArg (fun z => some (AV.int .i64 z)) (fj (by have := ht.bG; omega))) (show tm < g.from_.length from (List.getElem?_eq_some_iff.1 hxf).1)) rfl ?_
         have hltf := (List.getElem?_eq_some_iff.1 hutf).1
         refine l8 hst (.there (.eS (.there (.eS .here)))) rfl rfl (iA rfl rfl hOt2f.leaf.1 (hst.pop.bl.pop.bl.get 0 rfl) (m := 1) (by kernel_rfl) rfl (by omega) (ae hOt2f.leaf.2 rfl)) rfl (fun σ hst => ?_)
         refine ⟨aY, ?_⟩
         rw [g0 hltf] at hst
         have hO2f := hsetf _ _ _ hOt2f
         refine ba (ad (aj (aj (ah rfl (aa rfl (IC rfl (hst.pop.bl.pop.bl.pop.bl.pop.bl.pop.pop.pop.get 0 rfl) (n := 5) (vs := [_, _, _, _, _]) rfl) rfl (a9 rfl (It rfl rfl rfl) (fun _ => rfl) (gn hG _ hst) (fun σ hst => ?_)))))))
         refine nT (aE rfl (fun h97 => ?_) (fun h97 => ?_))
         ·refine aR (l := [(0, []), (1, []), (2, []), (3, []), (4, []), (5, []), (6, []), (7, []), (8, []), (9, []), (10, []), (11, []), (12, []), (13, []), (14, [1, 3]), (15, []), (16, [])]) (by kernel_rfl) (by kernel_rfl) (an rfl rfl (Iz 3 rfl) rfl (an rfl rfl (Ia rfl (hst.get 0 rfl) rfl) rfl (an rfl rfl (Iz 1 rfl) rfl (an rfl rfl (Ia rfl (hst.pop.bl.pop.bl.pop.bl.pop.bl.pop.pop.pop.get 0 rfl) rfl) rfl (an rfl rfl (Iz 3 rfl) rfl (an rfl rfl (Ia rfl (hst.get 0 rfl) rfl) rfl (an rfl rfl (Iz 1 rfl) rfl (an rfl rfl (Ia rfl (hst.pop.bl.pop.bl.pop.bl.pop.bl.pop.pop.pop.get 0 rfl) rfl) rfl ?_))))))))
          obtain ⟨pm, rfl⟩ := mI h46
          have hpl56 : pm + 1 ≤ (bR g e.loc).length := bn h56
          obtain ⟨ln, xo, hloc, hxo, hwl⟩ := sO (show 1 ≤ (bR g e.loc).length from by omega)
          have hpm : pm ≤ xo.length := by omega
          have hxo56 := kY (qp (a6 h16)) _ (List.mem_of_getElem? hxo)
          obtain ⟨uto, Mto, Ao, Bo, huto, hOto, hMMo, hseto⟩ := hOo.at hxo
          subst hMMo
          refine an rfl rfl (ej (e := 74) (m := 1) rfl (by kernel_rfl) rfl (congrArg (fun z => some (AV.int .i64 z)) hloc) (show ln < g.order.length from (List.getElem?_eq_some_iff.1 hxo).1)) rfl ?_
          refine an rfl rfl (ax rfl (hst.pop.bl.get 0 rfl) (by kernel_rfl) (by rw [dO, show 0 + ln * 1 = ln from by omega]; exact huto)) rfl (wQ 2 rfl (an rfl rfl (IC rfl (hst.pop.bl.pop.bl.pop.bl.pop.bl.get 0 rfl) (n := 2) (vs := [_, _]) rfl) rfl (sD hst rfl rfl (dy (e := 67) (m := 2) (z := [.int .i64 0, .int .i64 0]) (cs := [_, _]) (by kernel_rfl) (by kernel_rfl) (by kernel_rfl) (by kernel_rfl) (bL rfl rfl rfl rfl cX)) (fun _ => rfl) (fun σ b12 hst => ?_))))
          have hpl := ((hst.pull (X := Mto) (.there (.there fI.ot))).perm List.perm_middle).Eu
          refine gR rfl rfl (It rfl rfl rfl) (fun _ => rfl) (by rw [fj (by omega)]; exact DA hG hfk hov (x := ⟨.ofNat (tm + 1), .ofNat x33.length⟩) (i := pm) (.inr ⟨rfl, rfl⟩) hOto hpm (by omega) hpl) ?_
          rintro ut2o σ ⟨Mt2o, hOt2o, hst⟩
          replace hst := (hst.weaken (KP.sq _ _ _)).push (.there fI.ot)
          refine ⟨(bP (cM rfl rfl rfl rfl rfl (Ia rfl (hst.get 0 rfl) rfl) (nA _ _ _ _)) (bP (cM rfl rfl rfl rfl rfl (Ia rfl (hst.pop.bl.pop.bl.pop.bl.pop.bl.pop.pop.pop.get 0 rfl) rfl) (pk _ _)) aY)), ?_⟩
          refine an rfl rfl (ej (e := 74) (m := 1) rfl (by kernel_rfl) rfl (congrArg (fun z => some (AV.int .i64 z)) hloc) (show ln < g.order.length from (List.getElem?_eq_some_iff.1 hxo).1)) rfl ?_
          have hlto := (List.getElem?_eq_some_iff.1 huto).1
          refine l8 hst (.there (.eS .here)) rfl rfl (iA rfl rfl hOt2o.leaf.1 (hst.pop.bl.get 0 rfl) (m := 1) (by kernel_rfl) rfl (by omega) (ae hOt2o.leaf.2 rfl)) rfl (fun σ hst => ?_)
          refine ⟨aY, ?_⟩
          rw [g0 hlto] at hst
          have hO2o := hseto _ _ _ hOt2o
          refine ba (ad (aj (aj (ah rfl (aa rfl (IC rfl (hst.get 0 rfl) (n := 4) (vs := [_, _, _, _]) rfl) rfl ?_)))))
          have hfew := wx (qp (a6 h16))
          replace hst := hst.app (.there (.eS (.there (.eS (.there (.eS (.there (.eS (.there (.there (.there (.there (.there .base)))))))))))))
          refine a9 rfl (It rfl rfl rfl) (fun _ => rfl) (tO hG hst (mF (T1 := 57) (T2 := 74) (T3 := 74) (g := (⟨g.init, g.threads.set tm (x33 ++ [e]), g.from_.set tm (xf ++ [fr]), g.order.set ln (xo.take pm ++ ⟨.ofNat (tm + 1), .ofNat x33.length⟩ :: xo.drop pm)⟩ : XG)) hO.init hO2t hO2f hO2o (fun y hy => .inr (by simp [hy])) (fun y hy => .inr (by rcases List.mem_append.1 hy with hy | hy; (simp [hy]); rcases List.mem_append.1 hy with hy | hy <;> simp [hy])) (fun y hy => .inr (by rcases List.mem_append.1 hy with hy | hy; (simp [hy]); rcases List.mem_append.1 hy with hy | hy <;> simp [hy])) (fun y hy => .inr (by rcases List.mem_append.1 hy with hy | hy; (simp [hy]); rcases List.mem_append.1 hy with hy | hy <;> simp [hy])) (.inr (by simp)) (.inr (by simp)) (.inr (by simp)) (by simp) (by simp) (by simp) (by have h1 := hfew.2.1; have h2 := hfew.2.2.2.1; have h3 := hfew.2.2.2.2.2.1; simp; omega) (by have h1 := hfew.2.1; have h2 := hfew.2.2.2.1; have h3 := hfew.2.2.2.2.2.1; simp; omega) (by have h1 := hfew.2.1; have h2 := hfew.2.2.2.1; have h3 := hfew.2.2.2.2.2.1; simp; omega))) (fun σ hst => ?_)
          replace hst := hst.FH (.there (.eS (.there (.eS (.there (.eS (.there (.eS (.there (.there (.there (.there (.there .base)))))))))))))
          refine vQ 1 rfl (nT (aE rfl (fun h116 => ?_) (fun h116 => ?_)))
          ·refine aj (ah rfl (aa rfl (Is (places := [(0, 1), (1, 1), (2, 1), (3, 1)]) (zero := [.aq, .aq, .aq, .aq]) (cs := [_, _, _, _]) rfl) rfl (dM hst (.there (.eS (.there (.eS (.there (.eS (.there (.eS (.there .here))))))))) rfl (Io rfl rfl rfl (hst.pop.bl.pop.bl.pop.bl.pop.bl.pop.get 0 rfl) (m := 4) rfl rfl (cells' := [_, _, _, _]) rfl) rfl (fun σ hst => ?_))))
           refine vQ 1 rfl (nT (aB (au (?_))))
           exact bm rfl rfl (hst.pop.bl.pop.bl.pop.bl.pop.bl.pop.get 0 rfl) (m := 4) (by kernel_rfl) rfl rfl (.inl ⟨_, by rw [iX (a6 h16) hx33 hxf, show cd (.ofNat x33.length) 14 = true from a6 h39]; show (bif cB g e (.ofNat (pm + 1)) then _ else _) = _; rw [show cB g e (.ofNat (pm + 1)) = false from by unfold cB; rw [h43]; show (bif cd (.ofNat (pm + 1)) 1 then true else _) = false; rw [h46]; exact h56]; show (bif bk (bJ (fa g tm e fr (.ofNat (pm + 1)) x33 xf)) 0 then _ else _) = _; rw [vy (pm := pm) (fr := fr) (row := x33) (frow := xf) (tm := tm) h97 hloc hxo, bM h116]; rfl, rfl, hst.pop.bl.pop.bl.pop.bl.pop.bl.pop.pop.pop.pop.pop⟩)
          ·refine aF (ad (aj (ah rfl (aa rfl (IC rfl (hst.get 0 rfl) (n := 4) (vs := [_, _, _, _]) rfl) rfl (dM hst (.there (.eS (.there (.eS (.there (.eS (.there (.eS (.there .here))))))))) rfl (Io rfl rfl rfl (hst.pop.bl.pop.bl.pop.bl.pop.bl.pop.get 0 rfl) (m := 4) rfl (ae hO.init.leaf.2 rfl) (cells' := [_, _, _, _]) rfl) rfl (fun σ hst => ?_))))))
           refine vQ 1 rfl (nT (aB ?_))
           exact bm rfl rfl (hst.pop.bl.pop.bl.pop.bl.pop.bl.pop.get 0 rfl) (m := 4) (by kernel_rfl) rfl rfl (CT (by rw [iX (a6 h16) hx33 hxf, show cd (.ofNat x33.length) 14 = true from a6 h39]; show (bif cB g e (.ofNat (pm + 1)) then _ else _) = _; rw [show cB g e (.ofNat (pm + 1)) = false from by unfold cB; rw [h43]; show (bif cd (.ofNat (pm + 1)) 1 then true else _) = false; rw [h46]; exact h56]; show (bif bk (bJ (fa g tm e fr (.ofNat (pm + 1)) x33 xf)) 0 then _ else _) = _; rw [vy (pm := pm) (fr := fr) (row := x33) (frow := xf) (tm := tm) h97 hloc hxo, a6 h116]; rfl) (hst.app (.there (.eS (.there (.eS (.there (.eS (.there (.eS (.there (.there (.there (.there (.there .base)))))))))))))) (mF (T1 := 57) (T2 := 74) (T3 := 74) (g := (⟨g.init, g.threads.set tm (x33 ++ [e]), g.from_.set tm (xf ++ [fr]), g.order.set ln (xo.take pm ++ ⟨.ofNat (tm + 1), .ofNat x33.length⟩ :: xo.drop pm)⟩ : XG)) hO.init hO2t hO2f hO2o (fun y hy => .inr (by simp [hy])) (fun y hy => .inr (by rcases List.mem_append.1 hy with hy | hy; (simp [hy]); rcases List.mem_append.1 hy with hy | hy <;> simp [hy])) (fun y hy => .inr (by rcases List.mem_append.1 hy with hy | hy; (simp [hy]); rcases List.mem_append.1 hy with hy | hy <;> simp [hy])) (fun y hy => .inr (by rcases List.mem_append.1 hy with hy | hy; (simp [hy]); rcases List.mem_append.1 hy with hy | hy <;> simp [hy])) (.inr (by simp)) (.inr (by simp)) (.inr (by simp)) (by simp) (by simp) (by simp) (by have h1 := hfew.2.1; have h2 := hfew.2.2.2.1; have h3 := hfew.2.2.2.2.2.1; simp; omega) (by have h1 := hfew.2.1; have h2 := hfew.2.2.2.1; have h3 := hfew.2.2.2.2.2.1; simp; omega) (by have h1 := hfew.2.1; have h2 := hfew.2.2.2.1; have h3 := hfew.2.2.2.2.2.1; simp; omega)))
         ·exact absurd h43 (by rw [h97]; decide)
     ·refine vQ 13 rfl (aa rfl (IC rfl (hst.get 3 rfl) (n := 5) (vs := [_, _, _, _, _]) rfl) rfl (a9 rfl (It rfl rfl rfl) (fun _ => rfl) (gn hG _ hst) (fun σ hst => ?_)))
      refine aa rfl (dI rfl) rfl (aL rfl (al rfl) (fun _ => rfl) (fun h60 => ?_) (fun h60 => ?_))
      ·refine vQ 4 rfl (nT (aE rfl (fun h64 => ?_) (fun h64 => ?_)))
       ·refine aj (ah rfl (aa rfl (Is (places := [(0, 1), (1, 1), (2, 1), (3, 1)]) (zero := [.aq, .aq, .aq, .aq]) (cs := [_, _, _, _]) rfl) rfl (dY hst rfl (Io rfl rfl rfl (hst.get 1 rfl) (m := 4) rfl rfl (cells' := [_, _, _, _]) rfl) rfl (fun σ hst => ?_))))
        refine vQ 1 rfl (nT (aB (au (?_))))
        exact bm rfl rfl (hst.get 1 rfl) (m := 4) (by kernel_rfl) rfl rfl (.inl ⟨_, by rw [iX (a6 h16) hx33 hxf, show cd (.ofNat x33.length) 14 = true from a6 h39]; show (bif cB g e pl then _ else _) = _; rw [show cB g e pl = true from by unfold cB; rw [h43]; show (!bk pl 0) = true; rw [bM h64]; rfl]; rfl, rfl, hst.pop.pop.pop.pop.pop⟩)
       ·refine aF (ad (aj (ah rfl (aa rfl (IC rfl (hst.get 4 rfl) (n := 4) (vs := [_, _, _, _]) rfl) rfl (cJ rfl (It rfl rfl rfl) (fun _ => rfl) (sa hG h (wx (qp (a6 h16))) hst) ?_)))))
        rintro _ σ ⟨u1, M1, b6, us2, M2, b7, us3, M3, b8, us4, M4, rfl, hO, hst⟩
        have hOt := hO.threads
        have hOf := hO.from_
        have hOo := hO.order
        refine bp hst rfl (Ix (cs := [.aq, .aq, .aq, .aq])) (fun _ => rfl) (fun σ b9 hst => ?_)
        refine bA hst rfl (Io rfl rfl rfl (hst.get 0 rfl) (m := 4) rfl (ae hO.init.leaf.2 rfl) (cells' := [_, _, _, _]) rfl) rfl (fun σ hst => ?_)
        refine nT (aj (aR (l := [(0, []), (1, []), (2, []), (3, []), (4, []), (5, []), (6, []), (7, []), (8, []), (9, []), (10, []), (11, []), (12, [1]), (13, []), (14, [])]) (by kernel_rfl) (by kernel_rfl) (an rfl rfl (Iz 1 rfl) rfl (an rfl rfl (Ia rfl (hst.get 0 rfl) rfl) rfl (wQ 2 rfl (an rfl rfl (Iz 1 rfl) rfl (an rfl rfl (Ia rfl (hst.get 0 rfl) rfl) rfl (wQ 2 rfl ?_))))))))
        obtain ⟨utt, Mtt, At, Bt, hutt, hOtt, hMMt, hsett⟩ := hOt.at hx33
        subst hMMt
        refine an rfl rfl (ej (e := 57) (m := 1) rfl (by kernel_rfl) rfl (congrArg (fun z => some (AV.int .i64 z)) (fj (by have := ht.bG; omega))) (show tm < g.threads.length from (List.getElem?_eq_some_iff.1 hx33).1)) rfl ?_
        refine an rfl rfl (ax rfl (hst.pop.bl.pop.bl.pop.bl.get 0 rfl) (by kernel_rfl) (by rw [dO, show 0 + tm * 1 = tm from by omega]; exact hutt)) rfl (an rfl rfl (IC rfl (hst.pop.bl.pop.bl.pop.bl.pop.bl.pop.pop.pop.get 0 rfl) (n := 5) (vs := [_, _, _, _, _]) rfl) rfl (sD hst rfl rfl (dy (e := 56) (m := 5) (z := [.int .i64 0, .int .i64 0, .int .i64 0, .int .i64 0, .int .i64 0]) (cs := [_, _, _, _, _]) (by kernel_rfl) (by kernel_rfl) (by kernel_rfl) (by kernel_rfl) (bL rfl rfl rfl rfl cX)) (fun _ => rfl) (fun σ b10 hst => ?_)))
        have hpl := (hst.pull (X := Mtt) (.there (.there (.eS (.there (.eS (.there fI.ot))))))).perm List.perm_middle
        obtain ⟨σ, ut2t, Mt2t, happ, hOt2t, hst⟩ := eF (P := Tryz.prog) (ts := #[57, 57]) (t := 57) (e := 56) hOtt hpl (nr (R := kQ) (x := e) (m := 5) rfl rfl (.inr ⟨rfl, rfl⟩)) kQ.leaf (by simp) (by simp) (by have := (cq (qp (a6 h16))).2.2.1 _ (List.mem_of_getElem? hx33); omega) rfl (by kernel_rfl) (by kernel_rfl) (by kernel_rfl)
        refine eU rfl rfl (dK rfl rfl rfl rfl (by kernel_rfl) happ) rfl ?_
        replace hst := hst.push (.there (.eS (.there (.eS (.there fI.ot)))))
        refine ⟨(bP (cM rfl rfl rfl rfl rfl (Ia rfl (hst.get 0 rfl) rfl) (nA _ _ _ _)) aY), ?_⟩
        refine an rfl rfl (ej (e := 57) (m := 1) rfl (by kernel_rfl) rfl (congrArg (fun z => some (AV.int .i64 z)) (fj (by have := ht.bG; omega))) (show tm < g.threads.length from (List.getElem?_eq_some_iff.1 hx33).1)) rfl ?_
        have hltt := (List.getElem?_eq_some_iff.1 hutt).1
        refine l8 hst (.there (.eS (.there (.eS (.there (.eS .here)))))) rfl rfl (iA rfl rfl hOt2t.leaf.1 (hst.pop.bl.pop.bl.pop.bl.get 0 rfl) (m := 1) (by kernel_rfl) rfl (by omega) (ae hOt2t.leaf.2 rfl)) rfl (fun σ hst => ?_)
        refine ⟨aY, ?_⟩
        rw [g0 hltt] at hst
        have hO2t := hsett _ _ _ hOt2t
        refine ba (ad (aj (aR (l := [(0, []), (1, []), (2, []), (3, []), (4, []), (5, []), (6, []), (7, []), (8, []), (9, []), (10, []), (11, []), (12, [1]), (13, []), (14, [])]) (by kernel_rfl) (by kernel_rfl) (an rfl rfl (Iz 2 rfl) rfl (an rfl rfl (Ia rfl (hst.get 0 rfl) rfl) rfl (wQ 2 rfl (an rfl rfl (Iz 2 rfl) rfl (an rfl rfl (Ia rfl (hst.get 0 rfl) rfl) rfl (wQ 2 rfl ?_)))))))))
        obtain ⟨utf, Mtf, Af, Bf, hutf, hOtf, hMMf, hsetf⟩ := hOf.at hxf
        subst hMMf
        refine an rfl rfl (ej (e := 74) (m := 1) rfl (by kernel_rfl) rfl (congrArg (fun z => some (AV.int .i64 z)) (fj (by have := ht.bG; omega))) (show tm < g.from_.length from (List.getElem?_eq_some_iff.1 hxf).1)) rfl ?_
        refine an rfl rfl (ax rfl (hst.pop.bl.pop.bl.get 0 rfl) (by kernel_rfl) (by rw [dO, show 0 + tm * 1 = tm from by omega]; exact hutf)) rfl (an rfl rfl (IC rfl (hst.pop.bl.pop.bl.pop.bl.pop.bl.pop.pop.get 0 rfl) (n := 2) (vs := [_, _]) rfl) rfl (sD hst rfl rfl (dy (e := 67) (m := 2) (z := [.int .i64 0, .int .i64 0]) (cs := [_, _]) (by kernel_rfl) (by kernel_rfl) (by kernel_rfl) (by kernel_rfl) (bL rfl rfl rfl rfl cX)) (fun _ => rfl) (fun σ b11 hst => ?_)))
        have hpl := (hst.pull (X := Mtf) (.there (.there (.eS (.there fI.ot))))).perm List.perm_middle
        obtain ⟨σ, ut2f, Mt2f, happ, hOt2f, hst⟩ := eF (P := Tryz.prog) (ts := #[74, 74]) (t := 74) (e := 67) hOtf hpl (nr (R := kR) (x := fr) (m := 2) rfl rfl (.inr ⟨rfl, rfl⟩)) kR.leaf (by simp) (by simp) (by have := mR (cq (qp (a6 h16))).2.2.2.2.2.1 (cq (qp (a6 h16))).2.2.2.1 (cq (qp (a6 h16))).2.2.1 _ (List.mem_of_getElem? hxf); omega) rfl (by kernel_rfl) (by kernel_rfl) (by kernel_rfl)
        refine eU rfl rfl (dK rfl rfl rfl rfl (by kernel_rfl) happ) rfl ?_
        replace hst := hst.push (.there (.eS (.there fI.ot)))
        refine ⟨(bP (cM rfl rfl rfl rfl rfl (Ia rfl (hst.get 0 rfl) rfl) (nA _ _ _ _)) aY), ?_⟩
        refine an rfl rfl (ej (e := 74) (m := 1) rfl (by kernel_rfl) rfl (congrArg (fun z => some (AV.int .i64 z)) (fj (by have := ht.bG; omega))) (show tm < g.from_.length from (List.getElem?_eq_some_iff.1 hxf).1)) rfl ?_
        have hltf := (List.getElem?_eq_some_iff.1 hutf).1
        refine l8 hst (.there (.eS (.there (.eS .here)))) rfl rfl (iA rfl rfl hOt2f.leaf.1 (hst.pop.bl.pop.bl.get 0 rfl) (m := 1) (by kernel_rfl) rfl (by omega) (ae hOt2f.leaf.2 rfl)) rfl (fun σ hst => ?_)
        refine ⟨aY, ?_⟩
        rw [g0 hltf] at hst
        have hO2f := hsetf _ _ _ hOt2f
        refine ba (ad (aj (aj (ah rfl (aa rfl (IC rfl (hst.pop.bl.pop.bl.pop.bl.pop.bl.pop.pop.pop.get 0 rfl) (n := 5) (vs := [_, _, _, _, _]) rfl) rfl (a9 rfl (It rfl rfl rfl) (fun _ => rfl) (gn hG _ hst) (fun σ hst => ?_)))))))
        refine nT (aE rfl (fun h97 => ?_) (fun h97 => ?_))
        ·exact absurd h43 (by rw [h97]; decide)
        ·refine aF (ad (aj (aj (ah rfl (aa rfl (IC rfl (hst.get 0 rfl) (n := 4) (vs := [_, _, _, _]) rfl) rfl ?_)))))
         have hfew := wx (qp (a6 h16))
         replace hst := hst.app (.there (.eS (.there (.eS (.there (.eS (.there (.eS (.there (.there (.there (.there (.there .base)))))))))))))
         refine a9 rfl (It rfl rfl rfl) (fun _ => rfl) (tO hG hst (mF (T1 := 57) (T2 := 74) (T3 := 74) (g := (⟨g.init, g.threads.set tm (x33 ++ [e]), g.from_.set tm (xf ++ [fr]), g.order⟩ : XG)) hO.init hO2t hO2f hOo (fun y hy => .inr (by simp [hy])) (fun y hy => .inr (by rcases List.mem_append.1 hy with hy | hy; (simp [hy]); rcases List.mem_append.1 hy with hy | hy <;> simp [hy])) (fun y hy => .inr (by rcases List.mem_append.1 hy with hy | hy; (simp [hy]); rcases List.mem_append.1 hy with hy | hy <;> simp [hy])) (fun y hy => .inr (by simp [hy])) (.inr (by simp)) (.inr (by simp)) (.inr (by simp)) (by simp) (by simp) (by simp) (by have h1 := hfew.2.1; have h2 := hfew.2.2.2.1; have h3 := hfew.2.2.2.2.2.1; simp; omega) (by have h1 := hfew.2.1; have h2 := hfew.2.2.2.1; have h3 := hfew.2.2.2.2.2.1; simp; omega) (by have h1 := hfew.2.1; have h2 := hfew.2.2.2.1; have h3 := hfew.2.2.2.2.2.1; simp; omega))) (fun σ hst => ?_)
         replace hst := hst.FH (.there (.eS (.there (.eS (.there (.eS (.there (.eS (.there (.there (.there (.there (.there .base)))))))))))))
         refine vQ 1 rfl (nT (aE rfl (fun h116 => ?_) (fun h116 => ?_)))
         ·refine aj (ah rfl (aa rfl (Is (places := [(0, 1), (1, 1), (2, 1), (3, 1)]) (zero := [.aq, .aq, .aq, .aq]) (cs := [_, _, _, _]) rfl) rfl (dM hst (.there (.eS (.there (.eS (.there (.eS (.there (.eS (.there .here))))))))) rfl (Io rfl rfl rfl (hst.pop.bl.pop.bl.pop.bl.pop.bl.pop.get 0 rfl) (m := 4) rfl rfl (cells' := [_, _, _, _]) rfl) rfl (fun σ hst => ?_))))
          refine vQ 1 rfl (nT (aB (au (?_))))
          exact bm rfl rfl (hst.pop.bl.pop.bl.pop.bl.pop.bl.pop.get 0 rfl) (m := 4) (by kernel_rfl) rfl rfl (.inl ⟨_, by rw [iX (a6 h16) hx33 hxf, show cd (.ofNat x33.length) 14 = true from a6 h39]; show (bif cB g e pl then _ else _) = _; rw [show cB g e pl = false from by unfold cB; rw [h43]; show (!bk pl 0) = false; rw [a6 h64]; rfl]; show (bif bk (bJ (fa g tm e fr pl x33 xf)) 0 then _ else _) = _; rw [AQ (pl := pl) (fr := fr) (row := x33) (frow := xf) (tm := tm) h97, bM h116]; rfl, rfl, hst.pop.bl.pop.bl.pop.bl.pop.bl.pop.pop.pop.pop.pop⟩)
         ·refine aF (ad (aj (ah rfl (aa rfl (IC rfl (hst.get 0 rfl) (n := 4) (vs := [_, _, _, _]) rfl) rfl (dM hst (.there (.eS (.there (.eS (.there (.eS (.there (.eS (.there .here))))))))) rfl (Io rfl rfl rfl (hst.pop.bl.pop.bl.pop.bl.pop.bl.pop.get 0 rfl) (m := 4) rfl (ae hO.init.leaf.2 rfl) (cells' := [_, _, _, _]) rfl) rfl (fun σ hst => ?_))))))
          refine vQ 1 rfl (nT (aB ?_))
          exact bm rfl rfl (hst.pop.bl.pop.bl.pop.bl.pop.bl.pop.get 0 rfl) (m := 4) (by kernel_rfl) rfl rfl (CT (by rw [iX (a6 h16) hx33 hxf, show cd (.ofNat x33.length) 14 = true from a6 h39]; show (bif cB g e pl then _ else _) = _; rw [show cB g e pl = false from by unfold cB; rw [h43]; show (!bk pl 0) = false; rw [a6 h64]; rfl]; show (bif bk (bJ (fa g tm e fr pl x33 xf)) 0 then _ else _) = _; rw [AQ (pl := pl) (fr := fr) (row := x33) (frow := xf) (tm := tm) h97, a6 h116]; rfl) (hst.app (.there (.eS (.there (.eS (.there (.eS (.there (.eS (.there (.there (.there (.there (.there .base)))))))))))))) (mF (T1 := 57) (T2 := 74) (T3 := 74) (g := (⟨g.init, g.threads.set tm (x33 ++ [e]), g.from_.set tm (xf ++ [fr]), g.order⟩ : XG)) hO.init hO2t hO2f hOo (fun y hy => .inr (by simp [hy])) (fun y hy => .inr (by rcases List.mem_append.1 hy with hy | hy; (simp [hy]); rcases List.mem_append.1 hy with hy | hy <;> simp [hy])) (fun y hy => .inr (by rcases List.mem_append.1 hy with hy | hy; (simp [hy]); rcases List.mem_append.1 hy with hy | hy <;> simp [hy])) (fun y hy => .inr (by simp [hy])) (.inr (by simp)) (.inr (by simp)) (.inr (by simp)) (by simp) (by simp) (by simp) (by have h1 := hfew.2.1; have h2 := hfew.2.2.2.1; have h3 := hfew.2.2.2.2.2.1; simp; omega) (by have h1 := hfew.2.1; have h2 := hfew.2.2.2.1; have h3 := hfew.2.2.2.2.2.1; simp; omega) (by have h1 := hfew.2.1; have h2 := hfew.2.2.2.1; have h3 := hfew.2.2.2.2.2.1; simp; omega)))
      ·exact absurd h43 (by rw [fY h60]; decide)
end Go.Ev
namespace Go.Ev
variable [Env]
noncomputable def Dh (loc : Int) : List cS → Nat
 | [] => 0
 | e :: l => (bif (bif bH e then bk e.loc loc else false) then 1 else 0) + Dh loc l
noncomputable def Cp (loc : Int) : List (List cS) → Nat
 | [] => 0
 | l :: r => Dh loc l + Cp loc r
theorem uE {t : Nat} {k : List Int} {v : Int} : ∀ {l : List cS} {n : Nat}, (k, v) ∈ eT t l n ↔ ∃ i e, l[i]? = some e ∧ bH e = true ∧ k = [.ofNat (t + 1), .ofNat (n + i)] ∧ v = e.loc
 | [], n => ⟨fun h => (by cases h), fun ⟨i, e, h, _⟩ => by simp at h⟩
 | e :: l, n => by
  show (k, v) ∈ (bif bH e then ([.ofNat (t + 1), .ofNat n], e.loc) :: eT t l (n + 1) else eT t l (n + 1)) ↔ _
  have ih := uE (t := t) (k := k) (v := v) (l := l) (n := n + 1)
  have up : (k, v) ∈ eT t l (n + 1) ↔ ∃ i e', l[i]? = some e' ∧ bH e' = true ∧ k = [.ofNat (t + 1), .ofNat (n + (i + 1))] ∧ v = e'.loc := by
   rw [ih]
   constructor
   ·rintro ⟨i, e', h1, h2, h3, h4⟩; exact ⟨i, e', h1, h2, by rw [h3, show n + 1 + i = n + (i + 1) by omega], h4⟩
   ·rintro ⟨i, e', h1, h2, h3, h4⟩; exact ⟨i, e', h1, h2, by rw [h3, show n + 1 + i = n + (i + 1) by omega], h4⟩
  have cons : (∃ i e', (e :: l)[i]? = some e' ∧ bH e' = true ∧ k = [.ofNat (t + 1), .ofNat (n + i)] ∧ v = e'.loc) ↔ (bH e = true ∧ k = [.ofNat (t + 1), .ofNat n] ∧ v = e.loc) ∨ ∃ i e', l[i]? = some e' ∧ bH e' = true ∧ k = [.ofNat (t + 1), .ofNat (n + (i + 1))] ∧ v = e'.loc := by
   constructor
   ·rintro ⟨i, e', h1, h2, h3, h4⟩
    cases i with
    | zero =>
     have : e = e' := by simpa using h1
     subst this
     exact .inl ⟨h2, h3, h4⟩
    | succ i => exact .inr ⟨i, e', by simpa using h1, h2, h3, h4⟩
   ·rintro (⟨h2, h3, h4⟩ | ⟨i, e', h1, h2, h3, h4⟩)
    ·exact ⟨0, e, rfl, h2, h3, h4⟩
    ·exact ⟨i + 1, e', by simpa using h1, h2, h3, h4⟩
  rw [cons]
  cases hw : bH e with
  | false =>
   simp only [cond_false]
   rw [up]
   exact ⟨.inr, fun h => by rcases h with ⟨h, _⟩ | h; cases h; exact h⟩
  | true =>
   simp only [cond_true, List.mem_cons, Prod.mk.injEq, true_and]
   rw [up]
theorem uI {k : List Int} {v : Int} : ∀ {ls : List (List cS)} {t : Nat}, (k, v) ∈ gF ls t ↔ ∃ s i l e, ls[s]? = some l ∧ l[i]? = some e ∧ bH e = true ∧ k = [.ofNat (t + s + 1), .ofNat i] ∧ v = e.loc
 | [], t => ⟨fun h => (by cases h), fun ⟨s, i, l, e, h, _⟩ => by simp at h⟩
 | l :: ls, t => by
  show (k, v) ∈ eT t l 0 ++ gF ls (t + 1) ↔ _
  rw [List.mem_append, uE, uI (ls := ls)]
  constructor
  ·rintro (⟨i, e, h1, h2, h3, h4⟩ | ⟨s, i, l', e, h0, h1, h2, h3, h4⟩)
   ·exact ⟨0, i, l, e, rfl, h1, h2, by rw [h3, Nat.zero_add], h4⟩
   ·exact ⟨s + 1, i, l', e, by simpa using h0, h1, h2, by rw [h3, show t + 1 + s + 1 = t + (s + 1) + 1 by omega], h4⟩
  ·rintro ⟨s, i, l', e, h0, h1, h2, h3, h4⟩
   cases s with
   | zero =>
    have : l = l' := by simpa using h0
    subst this
    exact .inl ⟨i, e, h1, h2, by rw [h3, Nat.zero_add], h4⟩
   | succ s => exact .inr ⟨s, i, l', e, by simpa using h0, h1, h2, by rw [h3, show t + 1 + s + 1 = t + (s + 1) + 1 by omega], h4⟩
noncomputable def HI (g : XG) (loc : Int) (id : cW) : Bool :=
 bif (fA g id).isSome then (bif bk id.lY 0 then false else bif bH (Bv (fA g id)) then bk (Bv (fA g id)).loc loc else false) else false
structure H4 (g : XG) (ln : Nat) (r : List cW) : Prop where
 IF : ∀ id ∈ r, HI g (.ofNat ln) id = true
 nodup : r.Nodup
 Ba : r.length = Cp (.ofNat ln) g.threads
theorem CX {x y : cW} (h : x.ints = y.ints) : x = y := by
 have : cz x.ints y.ints = true := cu.2 h
 rw [cW.same] at this
 exact cu.1 this
theorem G3 {a b : Int} (h : bk a b = true) : a = b := by rw [dX] at h; exact of_decide_eq_true h
noncomputable def kj (g : XG) (loc : Int) : Int := match (bR g loc).getLast? with | none => 0 | some id => (Bv (fA g id)).write
noncomputable def rh (k : Nat) : List XC → List (List cS) → Option (List Int)
 | [], _ => some []
 | _ :: _, [] => none
 | c :: l, r :: g => bif bk (cC k c r).2 0 then (rh k l g).map fun e => (cC k c r).1.fin :: e else none
noncomputable def jg (k : Nat) (l : List XC) (g : XG) : Option (List Int) :=
 bif bf (bk (bJ g) 0) then none else bif bf (bk (.ofNat l.length) (.ofNat g.threads.length)) then none else rh k l g.threads
noncomputable def sI (g : XG) : List Int → Nat → Bool
 | [], _ => true
 | v :: r, i => bif bf (bk v (kj g (.ofNat i))) then false else sI g r (i + 1)
noncomputable def mm (k : Nat) (l : List XC) (m : List Int) (g : XG) : Option (List Int) :=
 match jg k l g with
 | none => none
 | some e => bif bf (bk (.ofNat m.length) (.ofNat g.init.length)) then none else bif sI g m 0 then some e else none
noncomputable def HJ (k : Nat) (l : List XC) (m : List Int) (g : XG) : Bool := (mm k l m g).isSome
structure XM where
 mem : List Int
 g : XG
structure wK where
 tW : cS
 fr : cW
 place : Int
 mem : List Int
noncomputable def mr (n : n8) : Int := bif bf (bk n.ask.kind 0) then n.ask.loc else n.event.loc
noncomputable def eM (n : n8) (m : List Int) (g : XG) : wK :=
 bif bk n.event.kind 4 then ⟨n.event, ⟨0, 0⟩, 0, m⟩ else
 let all := bR g (mr n)
 let tW := bif bf (bk n.ask.kind 0) then bZ n.ask ((m[(mr n).toNat]?).getD 0) else n.event
 let fr := bif bf (bk n.ask.kind 0) then (all.getLast?).getD ⟨0, 0⟩ else ⟨0, 0⟩
 bif bf (bk tW.kind 1) then ⟨tW, fr, .ofNat all.length, m.set (mr n).toNat tW.write⟩ else ⟨tW, fr, 0, m⟩
noncomputable def eK (n : n8) (g : XG) : Bool := bif bf (bk n.event.kind 4) then (bif cd (mr n) 0 then true else bf (cd (mr n) (.ofNat g.init.length))) else false
noncomputable def jf (k : Nat) (c : XC) (row : List cS) (g : XG) : Int :=
 bif bf (bk (cC k c row).2 0) then (cC k c row).2 else
 bif bf (bk (cC k c row).1.fin 0) then 10 else
 bif bf (cd (.ofNat row.length) 14) then 3 else
 bif eK (cC k c row).1 g then 2 else 0
noncomputable def wB (p : wK) (th : Int) (g : XG) : Option XM × Int :=
 match fm g th p.tW p.fr p.place with
 | (some g', e) => (some ⟨p.mem, g'⟩, e)
 | (none, e) => (none, e)
noncomputable def eN (k : Nat) (l : List XC) (r : XM) (t : Nat) : Option XM × Int :=
 match l[t]?, r.g.threads[t]? with
 | some c, some row => bif bf (bk (jf k c row r.g) 0) then (none, jf k c row r.g) else wB (eM (cC k c row).1 r.mem r.g) (.ofNat (t + 1)) r.g
 | _, _ => (none, 2)
structure jr (k : Nat) (l : List XC) (r : XM) : Prop where
 GY : bJ r.g = 0
 len : r.g.threads.length = l.length
 mem : r.mem.length = r.g.init.length
 last : ∀ i : Nat, i < r.g.init.length → r.mem[i]? = some (kj r.g (.ofNat i))
 fits : ∀ (t : Nat) (c : XC) (row : List cS), l[t]? = some c → r.g.threads[t]? = some row → mj k c row
theorem tx {k : Nat} : ∀ {l : List XC} {g : List (List cS)}, l.length = g.length → (∀ (t : Nat) (c : XC) (row : List cS), l[t]? = some c → g[t]? = some row → mj k c row) → ∃ e, rh k l g = some e ∧ e.length = l.length
 | [], _, _, _ => ⟨[], rfl, rfl⟩
 | _ :: _, [], h, _ => by simp at h
 | c :: l, r :: g, h, hf => by
  obtain ⟨e, he, hl⟩ := tx (k := k) (l := l) (g := g) (by simpa using h) (fun t c row h1 h2 => hf (t + 1) c row (by simpa using h1) (by simpa using h2))
  have := pd.2 (hf 0 c r rfl rfl)
  refine ⟨(cC k c r).1.fin :: e, ?_, ?_⟩
  ·unfold rh
   rw [this, he]; rfl
  ·simp [hl]
theorem xN {g : XG} : ∀ {m : List Int} {i : Nat}, (∀ j v, m[j]? = some v → v = kj g (.ofNat (i + j))) → sI g m i = true
 | [], _, _ => rfl
 | v :: r, i, h => by
  have h0 := h 0 v rfl
  rw [Nat.add_zero] at h0
  unfold sI
  rw [h0, jF]
  exact xN fun j v hv => by have := h (j + 1) v (by simpa using hv); rwa [show i + 1 + j = i + (j + 1) by omega]
theorem jr.is {k : Nat} {l : List XC} {r : XM} (h : jr k l r) : HJ k l r.mem r.g = true := by
 obtain ⟨e, he, _⟩ := tx (k := k) (l := l) (g := r.g.threads) h.len.symm h.fits
 unfold HJ mm jg
 rw [h.GY, h.len, jF, he]
 simp only [show bf (bk 0 0) = false from rfl, show bf true = false from rfl, cond_false]
 rw [h.mem, xN fun j v hv => ?_]
 ·simp only [jF, bf, cond_true, cond_false]; rfl
 ·have hj := (List.getElem?_eq_some_iff.1 hv).1
  have := h.last j (by rw [← h.mem]; exact hj)
  rw [hv] at this
  rw [Nat.zero_add]; exact Option.some.inj this
theorem DI {g : XG} (h : z9 g) {ln : Nat} {r : List cW} {id : cW} (hr : g.order[ln]? = some r) (hm : id ∈ r) : ∃ w, fA g id = some w := by
 have h1 := h.perm.mem_iff.2 (tH (loc := 0) hr hm)
 obtain ⟨s, i, l, e, k1, k2, _, k4, _⟩ := uI.1 h1
 have e1 : id = ⟨.ofNat (s + 1), .ofNat i⟩ := CX (by rw [k4, Nat.zero_add]; rfl)
 subst e1
 exact ⟨e, by rw [sW, k1]; exact k2⟩
theorem Fk {g : XG} {ln : Nat} (h : ln < g.init.length) : ∃ w, fA g ⟨0, .ofNat ln⟩ = some w := by
 refine ⟨⟨2, ln, 1, 0, g.init[ln]⟩, ?_⟩
 show (g.init[ln]?).map _ = _
 rw [List.getElem?_eq_getElem h]; rfl
theorem pR {g : XG} (hc : bJ g = 0) {ln : Nat} {r : List cW} (hr : g.order[ln]? = some r) : kj g (.ofNat ln) = (Bv (fA g ((r.getLast?).getD ⟨0, .ofNat ln⟩))).write := by
 unfold kj
 rw [eL (by rw [hc]; rfl) hr]
 cases h : r.getLast? with
 | none => rw [List.getLast?_eq_none_iff.1 h]; rfl
 | some x =>
  obtain ⟨P, rfl⟩ := List.getLast?_eq_some_iff.1 h
  rw [← List.cons_append, List.getLast?_append]; rfl
theorem jC {g : XG} (hc : bJ g = 0) {ln : Nat} (h : ln < g.init.length) : ∃ r, g.order[ln]? = some r := cL (by rw [(nI.1 hc).order]; exact h)
theorem Bp {g g' : XG} (hc : bJ g = 0) (hc' : bJ g' = 0) (hold : ∀ id w, fA g id = some w → fA g' id = some w) {ln : Nat} (h : ln < g.init.length) (ho : g'.order[ln]? = g.order[ln]?) : kj g' (.ofNat ln) = kj g (.ofNat ln) := by
 obtain ⟨r, hr⟩ := jC hc h
 rw [pR hc hr, pR hc' (by rw [ho]; exact hr)]
 have : ∃ w, fA g ((r.getLast?).getD ⟨0, .ofNat ln⟩) = some w := by
  cases hl : r.getLast? with
  | none => exact Fk h
  | some x => exact DI (nI.1 hc) hr (List.mem_of_getLast? hl)
 obtain ⟨w, hw⟩ := this
 rw [hw, hold _ _ hw]
theorem DK {g g' : XG} {th pl : Int} {e : cS} {fr : cW} (h : fm g th e fr pl = (some g', 0)) : g'.init = g.init := by
 obtain ⟨_, tm, row, frow, _, _, _, _, _, rfl, _⟩ := jd h
 rfl
theorem Fm {g g' : XG} {tm : Nat} {pl : Int} {e : cS} {fr : cW} (h : fm g (.ofNat (tm + 1)) e fr pl = (some g', 0)) : ∃ row, g.threads[tm]? = some row ∧ g'.threads = g.threads.set tm (row ++ [e]) := by
 obtain ⟨_, t2, row, frow, ht, h1, _, _, _, rfl, _⟩ := jd h
 have : tm = t2 := by have := Int.ofNat.inj ht; omega
 subst this
 exact ⟨row, h1, by rw [qv]⟩
theorem BI {g g' : XG} {th pl : Int} {e : cS} {fr : cW} (h : fm g th e fr pl = (some g', 0)) {ln : Nat} (hl : bH e = true → e.loc ≠ .ofNat ln) : g'.order[ln]? = g.order[ln]? := by
 obtain ⟨_, tm, row, frow, _, _, _, _, hp, rfl, _⟩ := jd h
 rw [qv]
 refine An fun hw => ?_
 obtain ⟨l2, r, h1, _⟩ := px hp hw
 have := hl hw
 rw [h1] at this ⊢
 exact fun e => this (by rw [← e]; rfl)
theorem zj {g g' : XG} {tm ln : Nat} {e : cS} {fr : cW} {r : List cW} (hr : g.order[ln]? = some r) (h : fm g (.ofNat (tm + 1)) e fr (.ofNat (r.length + 1)) = (some g', 0)) (hw : bH e = true) (hl : e.loc = .ofNat ln) : ∃ row, g.threads[tm]? = some row ∧ g'.order[ln]? = some (r ++ [⟨.ofNat (tm + 1), .ofNat row.length⟩]) := by
 obtain ⟨_, t2, row, frow, ht, h1, _, _, _, rfl, _⟩ := jd h
 have : tm = t2 := by have := Int.ofNat.inj ht; omega
 subst this
 refine ⟨row, h1, ?_⟩
 rw [qv]
 show (B3 g.order e _ _)[ln]? = _
 unfold B3
 rw [hw, hl]
 have hlt := (List.getElem?_eq_some_iff.1 hr).1
 simp only [cond_true]
 rw [show (Int.ofNat ln).toNat = ln from rfl, hr]
 rw [List.getElem?_set_self hlt]
 show some (List.take ((Int.ofNat (r.length + 1)).toNat - 1) r ++ _ :: List.drop ((Int.ofNat (r.length + 1)).toNat - 1) r) = _
 rw [show (Int.ofNat (r.length + 1)).toNat - 1 = r.length from rfl, List.take_length, List.drop_length]
theorem mH {n : n8} {m : List Int} {g : XG} (h : bk n.event.kind 4 = true) : eM n m g = ⟨n.event, ⟨0, 0⟩, 0, m⟩ := by unfold eM; rw [h]; rfl
theorem xl {a : tK} {v : Int} (h : a.kind = 2 ∨ a.kind = 4 ∨ a.kind = 5 ∨ a.kind = 6) : (bZ a v).loc = a.loc ∧ (dN (bZ a v) = true) := by
 refine ⟨?_, (ic h).1⟩
 unfold bZ
 rcases h with h | h | h | h <;> rw [h]
 ·rfl
 ·exact bE (P := fun e : cS => e.loc = a.loc) (bk v a.a) rfl rfl
 ·rfl
 ·rfl
structure zg (k : Nat) (l : List XC) (r : XM) (t : Nat) (c : XC) (row : List cS) (p : wK) (r' : XM) : Prop where
 code : l[t]? = some c
 rowAt : r.g.threads[t]? = some row
 err : jf k c row r.g = 0
 qg : p = eM (cC k c row).1 r.mem r.g
 add : fm r.g (.ofNat (t + 1)) p.tW p.fr p.place = (some r'.g, 0)
 mem : r'.mem = p.mem
theorem Dg {k : Nat} {l : List XC} {r r' : XM} {t : Nat} (h : eN k l r t = (some r', 0)) : ∃ c row p, zg k l r t c row p r' := by
 unfold eN at h
 cases h1 : l[t]? with
 | none => rw [h1] at h; cases h
 | some c =>
 cases h2 : r.g.threads[t]? with
 | none => rw [h1, h2] at h; cases h
 | some row =>
 rw [h1, h2] at h
 dsimp only at h
 cases h3 : bk (jf k c row r.g) 0 with
 | false => rw [h3] at h; cases h
 | true =>
  rw [h3] at h
  have h : wB (eM (cC k c row).1 r.mem r.g) (.ofNat (t + 1)) r.g = (some r', 0) := h
  unfold wB at h
  cases h4 : fm r.g (.ofNat (t + 1)) (eM (cC k c row).1 r.mem r.g).tW (eM (cC k c row).1 r.mem r.g).fr (eM (cC k c row).1 r.mem r.g).place with
  | mk o e =>
   rw [h4] at h
   cases o with
   | none => cases h
   | some g' =>
    simp only [Prod.mk.injEq, Option.some.injEq] at h
    obtain ⟨rfl, rfl⟩ := h
    exact ⟨c, row, _, h1, h2, qp h3, rfl, h4, rfl⟩
theorem zg.step {k : Nat} {l : List XC} {r r' : XM} {t : Nat} {c : XC} {row : List cS} {p : wK} (h : zg k l r t c row p r') : eN k l r t = (some r', 0) := by
 unfold eN
 rw [h.code, h.rowAt]
 dsimp only
 rw [h.err, ← h.qg]
 show wB p _ _ = _
 unfold wB
 rw [h.add]
 dsimp only
 obtain ⟨m, g⟩ := r'
 have := h.mem
 dsimp only at this
 subst this
 rfl
theorem Bh {k : Nat} {c : XC} {row : List cS} {g : XG} (h : jf k c row g = 0) : (cC k c row).2 = 0 ∧ (cC k c row).1.fin = 0 ∧ row.length < 14 ∧ eK (cC k c row).1 g = false := by
 unfold jf at h
 cases h1 : bk (cC k c row).2 0 with
 | false =>
  rw [h1] at h
  have h : (cC k c row).2 = 0 := h
  rw [h] at h1; cases h1
 | true =>
 rw [h1] at h
 cases h2 : bk (cC k c row).1.fin 0 with
 | false => rw [h2] at h; cases h
 | true =>
 rw [h2] at h
 cases h3 : cd (.ofNat row.length) 14 with
 | false => rw [h3] at h; cases h
 | true =>
 rw [h3] at h
 cases h4 : eK (cC k c row).1 g with
 | true => rw [h4] at h; cases h
 | false => exact ⟨qp h1, qp h2, bW (b := 14) h3, rfl⟩
theorem kV {n : n8} {g : XG} (h : eK n g = false) (hk : bk n.event.kind 4 = false) : ∃ ln : Nat, mr n = .ofNat ln ∧ ln < g.init.length := by
 unfold eK at h
 rw [hk] at h
 have h : (bif cd (mr n) 0 then true else bf (cd (mr n) (.ofNat g.init.length))) = false := h
 cases h1 : cd (mr n) 0 with
 | true => rw [h1] at h; cases h
 | false =>
  rw [h1] at h
  obtain ⟨ln, hl⟩ := qw h1
  rw [hl] at h ⊢
  exact ⟨ln, rfl, bW (a6 h)⟩
theorem nV {g g' : XG} {th : Int} {e : cS} {fr : cW} {ln : Nat} (h : fm g th e fr (.ofNat (bR g (.ofNat ln)).length) = (some g', 0)) (hl : ln < g.init.length) : bH e = true := by
 obtain ⟨hc, _, _, _, _, _, _, _, hb, _, _⟩ := jd h
 unfold cB at hb
 obtain ⟨o, ho⟩ := jC hc hl
 cases hw : bH e with
 | true => rfl
 | false => rw [hw, eL (by rw [hc]; rfl) ho] at hb; cases hb
structure zd (k : Nat) (c : XC) (row : List cS) (r : XM) (p : wK) : Prop where
 fits : mj k c (row ++ [p.tW])
 look : bk (cC k c row).1.event.kind 4 = false → ∃ ln : Nat, ln < r.g.init.length ∧ mr (cC k c row).1 = .ofNat ln ∧ p.tW.loc = .ofNat ln ∧ p.tW.kind ≠ 4
 cases : (p.tW.kind = 4 ∧ p.mem = r.mem ∧ p.place = 0) ∨ ∃ ln : Nat, ln < r.g.init.length ∧ p.tW.loc = .ofNat ln ∧ p.tW.kind ≠ 4 ∧ ((bH p.tW = false ∧ p.mem = r.mem ∧ p.place = 0) ∨ (bH p.tW = true ∧ p.mem = r.mem.set ln p.tW.write ∧ p.place = .ofNat (bR r.g (.ofNat ln)).length))
theorem z6 {e : cS} {n : Int} (h : bk e.kind n = false) : e.kind ≠ n := fun hh => by rw [hh, jF] at h; cases h
theorem ES {k : Nat} {c : XC} {row : List cS} {r : XM} {th : Int} {g' : XG} (h : jf k c row r.g = 0) (hadd : fm r.g th (eM (cC k c row).1 r.mem r.g).tW (eM (cC k c row).1 r.mem r.g).fr (eM (cC k c row).1 r.mem r.g).place = (some g', 0)) : zd k c row r (eM (cC k c row).1 r.mem r.g) := by
 obtain ⟨h1, h2, h3, h4⟩ := Bh h
 rcases wO h1 with ⟨e, he, hf, hr⟩ | ⟨a, ha, hk, hf⟩ | ⟨n, hn⟩
 ·have key : ∀ p : wK, eM (cC k c row).1 r.mem r.g = p → zd k c row r p := by
   rw [he] at h4 hadd ⊢
   intro p hp
   rw [hp] at hadd
   dsimp only at h4
   cases h5 : bk e.kind 4 with
   | true =>
    rw [mH h5] at hp
    subst hp
    exact ⟨hf, fun hh => (by rw [he] at hh; dsimp only at hh; rw [h5] at hh; cases hh), .inl ⟨G3 h5, rfl, rfl⟩⟩
   | false =>
    obtain ⟨ln, hl, hlt⟩ := kV h4 h5
    have hl' : e.loc = .ofNat ln := hl
    unfold eM at hp
    rw [hl] at hp
    dsimp only at hp
    rw [h5, show bk pz.kind 0 = true from rfl] at hp
    simp only [show bf true = false from rfl, cond_false] at hp
    cases h6 : bk e.kind 1 with
    | true =>
     have : dN e = true := by unfold dN; rw [h6]; rfl
     rw [this] at hr; cases hr
    | false =>
     rw [h6] at hp
     simp only [show bf false = true from rfl, cond_true] at hp
     subst hp
     exact ⟨hf, fun _ => ⟨ln, hlt, by rw [he]; exact hl, hl', z6 h5⟩, .inr ⟨ln, hlt, hl', z6 h5, .inr ⟨nV hadd hlt, rfl, rfl⟩⟩⟩
  exact key _ rfl
 ·have key : ∀ p : wK, eM (cC k c row).1 r.mem r.g = p → zd k c row r p := by
   rw [ha] at h4 hadd ⊢
   intro p hp
   rw [hp] at hadd
   have hk0 : bk a.kind 0 = false := by rcases hk with e | e | e | e <;> rw [e] <;> rfl
   have hL : mr ⟨s7, a, 0⟩ = a.loc := by unfold mr; dsimp only; rw [hk0]; rfl
   obtain ⟨ln, hl, hlt⟩ := kV h4 rfl
   unfold eM at hp
   rw [hl] at hp
   dsimp only at hp
   rw [hk0, show bk s7.kind 4 = false from rfl] at hp
   simp only [show bf false = true from rfl, cond_true, cond_false] at hp
   have hl2 : ∀ v, (bZ a v).loc = .ofNat ln := fun v => by rw [(xl hk).1, ← hL, hl]
   have hk4 : ∀ v, (bZ a v).kind ≠ 4 := fun v e4 => by
    have h5 := (ic (v := v) hk).1
    unfold dN at h5
    rw [e4] at h5; cases h5
   generalize hv : (r.mem[(Int.ofNat ln).toNat]?).getD 0 = v at hp
   have hlook : mr (cC k c row).1 = .ofNat ln := by rw [ha]; exact hl
   cases h6 : bk (bZ a v).kind 1 with
   | true =>
    rw [h6] at hp
    simp only [show bf true = false from rfl, cond_false] at hp
    subst hp
    refine ⟨hf v, fun _ => ⟨ln, hlt, hlook, hl2 v, hk4 v⟩, .inr ⟨ln, hlt, hl2 v, hk4 v, .inl ⟨?_, rfl, rfl⟩⟩⟩
    show bH (bZ a v) = false
    unfold bH
    rw [G3 h6]; rfl
   | false =>
    rw [h6] at hp
    simp only [show bf false = true from rfl, cond_true] at hp
    subst hp
    exact ⟨hf v, fun _ => ⟨ln, hlt, hlook, hl2 v, hk4 v⟩, .inr ⟨ln, hlt, hl2 v, hk4 v, .inr ⟨nV hadd hlt, rfl, rfl⟩⟩⟩
  exact key _ rfl
 ·rw [hn] at h4 hadd
  exfalso
  obtain ⟨ln, hl, hlt⟩ := kV h4 rfl
  obtain ⟨hc, _, _, _, _, _, _, _, hp, _, _⟩ := jd hadd
  have hp : (!bk (.ofNat (bR r.g (mr ⟨s7, pz, n⟩)).length) 0) = false := hp
  obtain ⟨q, hq⟩ := jC hc hlt
  rw [hl, eL (by rw [hc]; rfl) hq] at hp
  cases hp
theorem jr.step {k : Nat} {l : List XC} {r r' : XM} {t : Nat} (h : jr k l r) (hs : eN k l r t = (some r', 0)) : jr k l r' ∧ r'.g.init = r.g.init := by
 obtain ⟨c, row, p, hp⟩ := Dg hs
 have hadd := hp.add
 rw [hp.qg] at hadd
 have hok := ES hp.err hadd
 rw [← hp.qg] at hok hadd
 obtain ⟨tm, row', ht, k1, hck, hck', hnew, _, _, hold, _⟩ := BB hadd
 have hi := DK hadd
 obtain ⟨row2, hr2, hth⟩ := Fm hadd
 rw [hp.rowAt] at hr2
 cases hr2
 have hlen : r'.g.threads.length = l.length := by rw [hth, List.length_set]; exact h.len
 have htm : tm = t := by have := Int.ofNat.inj ht; omega
 subst htm
 rw [hp.rowAt] at k1
 cases k1
 refine ⟨⟨hck', hlen, ?_, fun i hlt => ?_, fun t2 c2 row2 h1 h2 => ?_⟩, hi⟩
 ·rw [hp.mem, hi, ← h.mem]
  rcases hok.cases with ⟨_, e, _⟩ | ⟨ln, _, _, _, ⟨_, e, _⟩ | ⟨_, e, _⟩⟩ <;> rw [e]
  rw [List.length_set]
 ·rw [hi] at hlt
  rw [hp.mem]
  have same : (bH p.tW = true → p.tW.loc ≠ .ofNat i) → kj r'.g (.ofNat i) = kj r.g (.ofNat i) := fun hw => Bp hck hck' hold hlt (BI hadd hw)
  rcases hok.cases with ⟨e1, e, _⟩ | ⟨ln, hln, hloc, _, ⟨e1, e, _⟩ | ⟨hw, e, epl⟩⟩
  ·rw [e, same (fun hw => by unfold bH at hw; rw [e1] at hw; cases hw)]; exact h.last i hlt
  ·rw [e, same (fun hw => by rw [e1] at hw; cases hw)]; exact h.last i hlt
  ·rw [e]
   by_cases hil : ln = i
   ·subst hil
    rw [List.getElem?_set_self (by rw [h.mem]; exact hln)]
    obtain ⟨q, hq⟩ := jC hck hln
    have hpl : p.place = .ofNat (q.length + 1) := by rw [epl, eL (by rw [hck]; rfl) hq]; rfl
    rw [hpl] at hadd
    obtain ⟨row3, h3, ho⟩ := zj hq hadd hw hloc
    rw [hp.rowAt] at h3
    cases h3
    rw [pR hck' ho, List.getLast?_append]
    show some p.tW.write = some (Bv (fA r'.g ⟨.ofNat (tm + 1), .ofNat row.length⟩)).write
    rw [hnew]; rfl
   ·rw [List.getElem?_set_ne hil, same (fun _ => by rw [hloc]; exact fun e => hil (Int.ofNat.inj e))]
    exact h.last i hlt
 ·rw [hth] at h2
  by_cases e : tm = t2
  ·subst e
   rw [List.getElem?_set_self (List.getElem?_eq_some_iff.1 hp.rowAt).1] at h2
   rw [hp.code] at h1
   cases h1; cases h2
   exact hok.fits
  ·rw [List.getElem?_set_ne e] at h2
   exact h.fits t2 c2 row2 h1 h2
theorem jr.start {k : Nat} {l : List XC} {init : List Int} (hl : l.length ≤ 4) (hi : init.length ≤ 6) (hf : ∀ c ∈ l, iN k c = true) : jr k l ⟨init, ⟨init, List.replicate l.length [], List.replicate l.length [], List.replicate init.length []⟩⟩ := by
 have hw : ∀ n t, gF (List.replicate n []) t = [] := by
  intro n
  induction n with
  | zero => intro t; rfl
  | succ n ih => intro t; show eT t [] 0 ++ gF (List.replicate n []) (t + 1) = []; rw [ih]; rfl
 have ho : ∀ n t, rv (List.replicate n []) t = [] := by
  intro n
  induction n with
  | zero => intro t; rfl
  | succ n ih => intro t; show oF t [] ++ rv (List.replicate n []) (t + 1) = []; rw [ih]; rfl
 have hr : z9 ⟨init, List.replicate l.length [], List.replicate l.length [], List.replicate init.length []⟩ := by
  refine ⟨by simpa using hl, hi, fun i x hx => ?_, by simp, by simp, fun i x f hx hf => ?_, ?_⟩
  ·have := List.eq_of_mem_replicate (List.mem_of_getElem? hx)
   subst this; exact Nat.zero_le _
  ·have h1 := List.eq_of_mem_replicate (List.mem_of_getElem? hx)
   have h2 := List.eq_of_mem_replicate (List.mem_of_getElem? hf)
   subst h1; subst h2
   exact ⟨rfl, fun j e q he => by simp at he⟩
  ·show (gF (List.replicate l.length []) 0).Perm (rv (List.replicate init.length []) 0)
   rw [hw, ho]
 have hc := nI.2 hr
 refine ⟨hc, by simp, rfl, fun i hlt => ?_, fun t c row h1 h2 => ?_⟩
 ·have hq : (List.replicate init.length ([] : List cW))[i]? = some [] := by
   rw [List.getElem?_eq_getElem (by simpa using hlt)]; simp
  rw [pR hc hq]
  show init[i]? = some (Bv ((init[i]?).map fun v => (⟨2, i, 1, 0, v⟩ : cS))).write
  rw [List.getElem?_eq_getElem hlt]; rfl
 ·have h3 := List.eq_of_mem_replicate (List.mem_of_getElem? h2)
  subst h3
  exact Dq (hf c (List.mem_of_getElem? h1))
noncomputable def iE (k : Nat) (l : List XC) (r : XM) (p : Int) : Option XM :=
 bif cd p 1 then none else bif cd (.ofNat l.length) p then none else bif bk (eN k l r (p.toNat - 1)).2 0 then (eN k l r (p.toNat - 1)).1 else none
noncomputable def jH (k : Nat) (l : List XC) (s : XM × List Int) (p : Int) : XM × List Int := match iE k l s.1 p with | some r => (r, s.2 ++ [p]) | none => s
noncomputable def cR (k : Nat) (l : List XC) (s : XM × List Int) (ps : List Int) : XM × List Int := ps.foldl (jH k l) s
theorem B1 {k : Nat} {l : List XC} {r r' : XM} {p : Int} (h : iE k l r p = some r') : ∃ t : Nat, p = .ofNat (t + 1) ∧ t < l.length ∧ eN k l r t = (some r', 0) := by
 unfold iE at h
 cases h1 : cd p 1 with
 | true => rw [h1] at h; cases h
 | false =>
 rw [h1] at h
 cases h2 : cd (.ofNat l.length) p with
 | true => rw [h2] at h; cases h
 | false =>
 rw [h2] at h
 obtain ⟨t, rfl⟩ := mI h1
 simp only [cond_false, show (Int.ofNat (t + 1)).toNat - 1 = t from rfl] at h
 cases h3 : bk (eN k l r t).2 0 with
 | false => rw [h3] at h; cases h
 | true =>
  rw [h3] at h
  exact ⟨t, rfl, by have := bn h2; omega, Prod.ext h (qp h3)⟩
theorem jr.iE {k : Nat} {l : List XC} {r r' : XM} {p : Int} (h : jr k l r) (hs : iE k l r p = some r') : jr k l r' ∧ r'.g.init = r.g.init := by
 obtain ⟨t, _, _, h1⟩ := B1 hs
 exact h.step h1
theorem jr.Es {k : Nat} {l : List XC} : ∀ {ps : List Int} {s : XM × List Int}, jr k l s.1 → jr k l (cR k l s ps).1 ∧ (cR k l s ps).1.g.init = s.1.g.init
 | [], s, h => ⟨h, rfl⟩
 | p :: ps, s, h => by
  show jr k l (cR k l (jH k l s p) ps).1 ∧ (cR k l (jH k l s p) ps).1.g.init = s.1.g.init
  unfold jH
  cases ht : Go.Ev.iE k l s.1 p with
  | none => exact jr.Es h
  | some r =>
   obtain ⟨h1, h2⟩ := h.iE ht
   obtain ⟨h3, h4⟩ := jr.Es (ps := ps) (s := (r, s.2 ++ [p])) h1
   exact ⟨h3, by rw [h4, h2]⟩
theorem g9 {k : Nat} {l : List XC} {s : XM × List Int} {ps : List Int} {i : Nat} {p : Int} (h : ps[i]? = some p) : cR k l s (ps.take (i + 1)) = jH k l (cR k l s (ps.take i)) p := by
 unfold cR
 rw [List.take_add_one, h, List.foldl_append]; rfl
theorem uH {k : Nat} {l : List XC} {s : XM × List Int} {ps : List Int} {i : Nat} (h : ps.length ≤ i) : cR k l s (ps.take i) = cR k l s ps := by rw [List.take_of_length_le h]
end Go.Ev
namespace Go.Ev
variable [Env]
open Go.Proofs
set_option maxRecDepth 4000
set_option maxHeartbeats 8000000
noncomputable def FP (k : Nat) (p : XC × List cS) : Int := (cC k p.1 p.2).1.fin
theorem vd {k : Nat} : ∀ {l : List XC} {g : List (List cS)}, l.length = g.length → (∀ (i : Nat) (c : XC) (r : List cS), l[i]? = some c → g[i]? = some r → bk (cC k c r).2 0 = true) → rh k l g = some ((l.zip g).map (FP k))
 | [], [], _, _ => rfl
 | [], _ :: _, h, _ => by simp at h
 | _ :: _, [], h, _ => by simp at h
 | c :: l, r :: g, h, hh => by
  have h0 := hh 0 c r rfl rfl
  have := vd (k := k) (l := l) (g := g) (by simpa using h) fun i c r h1 h2 => hh (i + 1) c r (by simpa using h1) (by simpa using h2)
  show (bif bk (cC k c r).2 0 then (rh k l g).map fun e => (cC k c r).1.fin :: e else none) = _
  rw [h0, this]; rfl
theorem uD {k : Nat} : ∀ {l : List XC} {g : List (List cS)} {i : Nat} {c : XC} {r : List cS}, l[i]? = some c → g[i]? = some r → bk (cC k c r).2 0 = false → rh k l g = none
 | c' :: l, r' :: g, 0, c, r, h1, h2, h => by
  simp only [List.getElem?_cons_zero, Option.some.injEq] at h1 h2
  subst h1; subst h2
  show (bif bk (cC k c' r').2 0 then _ else none) = none
  rw [h]; rfl
 | c' :: l, r' :: g, i + 1, c, r, h1, h2, h => by
  have := uD (k := k) (l := l) (g := g) (i := i) (by simpa using h1) (by simpa using h2) h
  show (bif bk (cC k c' r').2 0 then (rh k l g).map _ else none) = none
  rw [this]
  cases bk (cC k c' r').2 0 <;> rfl
 | [], _, _, _, _, h1, _, _ => by simp at h1
 | _ :: _, [], _, _, _, _, h2, _ => by simp at h2
theorem GJ {α β : Type} {l : List α} {g : List β} {i : Nat} {x : α} {y : β} (h1 : l[i]? = some x) (h2 : g[i]? = some y) : (l.zip g)[i]? = some (x, y) := by rw [List.getElem?_zip_eq_some]; exact ⟨h1, h2⟩
theorem FW {G : Cx} (hG : Plain G) {K : KP} (hgl : kP G K) {k : Nat} {l : List XC} {lv : AV} (hl : bC K 2 (jM K k) l lv) {g : XG} {a b c d : AV} (hg : eX K g a b c d) {σ : av} {L : Own} (hst : St σ K L) :
  a7 Tryz.prog G 12 [lv, .agg [a, b, c, d]] σ fun v σ' => ∃ u M, v = .tuple [u, .bool (jg k l g).isSome] ∧ eG 1 3 dE ((jg k l g).getD []) u M ∧ St σ' K (M ++ L) := by
 refine a8 hG Tryz.func12 rfl (t := (PT.leaf.put (some (lv)) 0).put (some (.agg [a, b, c, d])) 1) (by rfl) (aj (ah rfl (bp hst rfl (cU rfl rfl) (fun _ => rfl) (fun σ b1 hst => ?_))))
 refine vQ 2 rfl (nT (aj (aj (ah rfl (aa rfl (IC rfl (hst.get 0 rfl) (n := 4) (vs := [_, _, _, _]) rfl) rfl (a9 rfl (It rfl rfl rfl) (fun _ => rfl) (rA hG hg hst) (fun σ hst => ?_)))))))
 refine vQ 1 rfl (aL rfl (al rfl) (fun _ => rfl) (fun h14 => ?_) (fun h14 => ?_))
 ·refine vQ 7 rfl (nT (aC rfl (aj (ah rfl (vQ 2 rfl (nT (aB (au (?_)))))))))
  have hR : jg k l g = none := by unfold jg; rw [show bf (bk (bJ g) 0) = true from h14]; rfl
  exact bS rfl rfl rfl ⟨.aq, [], by rw [hR]; rfl, by rw [hR]; exact .inl ⟨rfl, rfl, rfl⟩, hst.pop⟩
 ·refine vQ 1 rfl (aa rfl (H9 hl rfl rfl rfl (e := 33) rfl) rfl (aa rfl (Iz 1 rfl) rfl (aa rfl (Ia rfl (hst.get 0 rfl) rfl) rfl (aa rfl (H9 hg.threads rfl rfl rfl (e := 57) rfl) rfl (vQ 2 rfl (nT (aE rfl (fun h21 => ?_) (fun h21 => ?_))))))))
  ·refine aj (ah rfl (vQ 2 rfl (nT (aB (au (?_))))))
   have hR : jg k l g = none := by unfold jg; rw [show bf (bk (bJ g) 0) = false from h14, show bf (bk (.ofNat l.length) (.ofNat g.threads.length)) = true from h21]; rfl
   exact bS rfl rfl rfl ⟨.aq, [], by rw [hR]; rfl, by rw [hR]; exact .inl ⟨rfl, rfl, rfl⟩, hst.pop⟩
  ·refine aF (ad (aj (ah rfl (vQ 1 rfl (aa rfl (H9 hl rfl rfl rfl (e := 33) rfl) rfl ?_)))))
   have hck : bJ g = 0 := eqv (a6 h14)
   obtain ⟨b1_, _, b3_, _⟩ := cq hck
   have hlg : l.length = g.threads.length := dc (a6 h21)
   obtain ⟨F, hF⟩ : ∃ F, F = FP k := ⟨_, rfl⟩
   have hzl : (l.zip g.threads).length = l.length := by rw [List.length_zip, hlg]; omega
   refine lD hst rfl (gm (e := 3) (w := 8) (z := [gZ 0]) (by kernel_rfl) (by kernel_rfl) (by kernel_rfl) (by kernel_rfl) rfl rfl (by omega) (by omega)) (fun _ => rfl) (fun σ b2 hst => ?_)
   rw [gQ (f := gZ)] at hst
   rw [show List.replicate l.length 0 = kp F (l.zip g.threads) 0 from by rw [sd, hzl]] at hst
   refine vQ 1 rfl (nT (aj (aj (ah rfl (vQ 1 rfl (aa rfl (H9 hl rfl rfl rfl (e := 33) rfl) rfl (vQ 1 rfl (nT (aP (bu [4, 5, 7, 8, 9, 10, 27, 28, 29, 30, 31, 32, 33, 34, 35, 36, 37, 38, 39, 40, 41, 42, 43, 44, 45, 46, 47, 48, 49] (fun j t σ => ∃ (i : Nat), j + i = l.length ∧ (∀ (i2 : Nat) (c2 : XC) (r2 : List cS), i2 < i → l[i2]? = some c2 → g.threads[i2]? = some r2 → bk (cC k c2 r2).2 0 = true) ∧ t.get 27 = some (.int .i64 (.ofNat i)) ∧ St σ K ((b2, .row ((kp F (l.zip g.threads) i).map gZ) 3 false) :: (b1, .row [a, b, c, d] 26 false) :: L)) (l.length) ⟨0, rfl, fun i2 c2 r2 h => absurd h (Nat.not_lt_zero _), rfl, hst⟩ ?_))))))))))
   clear hst; intro j5 t σ ar hI; obtain ⟨i, hj5, hok, hv27, hst⟩ := hI
   obtain ⟨o4, o5, o7, o8, o9, o10, o27, o28, o29, o30, o31, o32, o33, o34, o35, o36, ar⟩ := ar.HE rfl rfl rfl rfl
   replace ar := ar.dC rfl rfl; obtain ⟨o37, o38, o39, o40, o41, o42, o43, o44, ar⟩ := ar
   replace ar := ar.rp rfl; obtain ⟨o45, o46, o47, o48, ar⟩ := ar
   replace ar := ar.fD rfl; obtain ⟨o49, ar⟩ := ar
   obtain rfl := ar.nil; clear ar
   replace hv27 : o27 = some _ := hv27; subst hv27
   refine aj (ah rfl (aL rfl (aA rfl rfl rfl) (fun _ => rfl) (fun h28 => ?_) (fun h28 => ?_)))
   ·refine nT (aj (aC rfl (aF (ad (aj (aP (aj (ah rfl (vQ 1 rfl ?_)))))))))
    obtain ⟨x30, hx30, hi30⟩ := dv h28
    refine Ib (e := 33) (m := 2) hl hx30 rfl rfl rfl rfl (fun _ => rfl) (fun p30 vs30 hp30 hl30 hr30 => ?_)
    have hr30' := hr30; obtain ⟨v30, rfl, hk30⟩ := hr30'
    refine aa rfl (cr hst hp30 rfl (by kernel_rfl) rfl) rfl (bp hst rfl (Ix (cs := [.int .i64 0, .aq])) (fun _ => rfl) (fun σ b3 hst => ?_))
    refine vQ 1 rfl (bA hst rfl (Io rfl rfl rfl (hst.get 0 rfl) (m := 2) rfl (ae rfl (ae hk30.leaf.2 az)) (cells' := [_, _]) rfl) rfl (fun σ hst => ?_))
    refine nT (aj (aR (l := [(0, []), (1, []), (2, []), (3, []), (4, []), (5, []), (10, []), (6, [10]), (7, []), (8, []), (9, []), (11, []), (12, [])]) (by kernel_rfl) (by kernel_rfl) (an rfl rfl (IC rfl (hst.get 0 rfl) (n := 2) (vs := [_, _]) rfl) rfl (an rfl rfl (Iz 1 rfl) rfl (an rfl rfl (Ia rfl (hst.get 2 rfl) rfl) rfl (wQ 1 rfl ?_))))))
    obtain ⟨x37, hx37⟩ := cL (show i < g.threads.length from by rw [← hlg]; exact hi30)
    refine Ic (e := 57) (m := 1) hg.threads hx37 rfl rfl rfl rfl rfl (fun _ => rfl) (fun p37 vs37 hp37 hl37 hr37 => ?_)
    have hr37' := hr37; obtain ⟨v37, rfl, hk37⟩ := hr37'
    refine an rfl rfl (Ih hst hp37 rfl rfl) rfl (ue hst rfl rfl (Ix (cs := [.int .i64 0, .int .i64 0, .int .i64 0, .int .i64 0, .int .i64 0, .int .i64 0, .int .i64 0, .int .i64 0, .int .i64 0, .int .i64 0, .int .i64 0])) (fun _ => rfl) (fun σ b4 hst => ?_))
    refine dt rfl rfl (It rfl rfl rfl) (fun _ => rfl) (DP hG hgl hk30 hk37 (by have := b3_ x37 (List.mem_of_getElem? hx37); omega) hst) (fun σ hst => ?_)
    refine ⟨(bP (np rfl rfl rfl rfl rfl (cs := [.int .i64 0, .int .i64 0, .int .i64 0, .int .i64 0, .int .i64 0, .int .i64 0, .int .i64 0, .int .i64 0, .int .i64 0, .int .i64 0, .int .i64 0]) (e := 87) (by kernel_rfl) (hst.get 0 rfl) (by kernel_rfl)) aY), ?_⟩
    refine wQ 3 rfl (lK hst rfl rfl (Io rfl rfl rfl (hst.get 0 rfl) (m := 11) rfl rfl (cells' := [_, _, _, _, _, _, _, _, _, _, _]) rfl) rfl (fun σ hst => ?_))
    refine ⟨aY, ?_⟩
    refine wQ 1 rfl (ba (ad (aj (aj (ah rfl (vQ 2 rfl (nT (aE rfl (fun h43 => ?_) (fun h43 => ?_)))))))))
    ·refine aj (ah rfl (vQ 2 rfl (nT (aB (au (aD (au (bx (aD (au (?_)))))))))))
     have hR : jg k l g = none := by unfold jg; rw [show bf (bk (bJ g) 0) = false from h14, show bf (bk (.ofNat l.length) (.ofNat g.threads.length)) = false from h21]; exact uD hx30 hx37 (bM h43)
     exact bS rfl rfl rfl ⟨.aq, [], by rw [hR]; rfl, by rw [hR]; exact .inl ⟨rfl, rfl, rfl⟩, hst.pop.pop.pop.pop⟩
    ·refine aF (ad (ah rfl (vQ 2 rfl (aa rfl (Iz 10 rfl) rfl (aa rfl (Ia rfl (hst.get 0 rfl) rfl) rfl (aa rfl (ej (e := 3) (m := 1) (by kernel_rfl) (by kernel_rfl) rfl rfl hi30) rfl ?_))))))
     refine dM hst (.there (.there .here)) rfl (aJ rfl rfl (show _ = some [gZ (F (x30, x37))] from by rw [hF]; rfl) (hst.get 2 rfl) (m := 1) (by kernel_rfl) rfl (by rw [List.length_map]; rw [nJ (by omega), hzl]; omega) rfl (cells' := ((kp F (l.zip g.threads) i).set i (F (x30, x37))).map (gZ)) (fb (f := gZ) (v := (F (x30, x37))) (by rw [nJ (by omega), hzl]; exact hi30) (by first | omega | rfl))) rfl (fun σ hst => ?_)
     rw [uj (GJ hx30 hx37)] at hst
     refine af (aK (ad (ah rfl (vQ 2 rfl (af ?_)))))
     have hst := hst.pop
     have hst := hst.pop
     refine aQ ⟨j5 - 1, by omega, (by (iterate 56 refine bq.put rfl ?_); exact bq.refl _ _), i + 1, by omega, fun i2 c2 r2 hlt h1 h2 => (by by_cases e : i2 = i; (subst e; rw [hx30] at h1; rw [hx37] at h2; cases h1; cases h2; exact a6 h43); exact hok i2 c2 r2 (by omega) h1 h2), congrArg (fun z => some (AV.int .i64 z)) (bg (by have := hl.bG; omega)), hst⟩
   ·refine nT (aj (aI rfl (bz (aZ (bc (aU (ad (aj (ah rfl (vQ 3 rfl (af (ad ?_))))))))))))
    refine aB ?_
    have hR : jg k l g = some ((l.zip g.threads).map (FP k)) := by unfold jg; rw [show bf (bk (bJ g) 0) = false from h14, show bf (bk (.ofNat l.length) (.ofNat g.threads.length)) = false from h21]; exact vd hlg fun i2 c2 r2 h1 h2 => hok i2 c2 r2 (by have := (List.getElem?_eq_some_iff.1 h1).1; have := bn h28; omega) h1 h2
    rw [uk (by have := bn h28; omega)] at hst
    exact bS rfl rfl rfl ⟨_, [(b2, _)], by rw [hR]; rfl, by rw [hR, ← hF]; have := k9 (b := b2) (e := 3) (E := 3) (xs := (l.zip g.threads).map F) (by rw [List.length_map]; omega); rw [List.length_map, hzl] at this; exact this, hst.sub (.cons_cons _ (.cons _ (.refl _)))⟩
theorem Gc {G : Cx} (hG : Plain G) {K : KP} {g : XG} {a b c d : AV} (hg : eX K g a b c d) (hbo : ∀ l ∈ g.order, l.length ≤ 1000000) (loc : Int) {σ : av} {L : Own} (hst : St σ K L) :
  a7 Tryz.prog G 43 [.agg [a, b, c, d], .int .i64 loc] σ fun v σ' => v = .int .i64 (kj g loc) ∧ St σ' K L := by
 refine a8 hG Tryz.func43 rfl (t := (PT.leaf.put (some (.agg [a, b, c, d])) 0).put (some (.int .i64 loc)) 1) (by rfl) (aj (ah rfl (bp hst rfl (cU rfl rfl) (fun _ => rfl) (fun σ b1 hst => ?_))))
 refine vQ 1 rfl (nS rfl (aa rfl (IC rfl (hst.get 0 rfl) (n := 4) (vs := [_, _, _, _]) rfl) rfl (vQ 1 rfl (cJ rfl (It rfl rfl rfl) (fun _ => rfl) (pC hG hg hbo _ hst) ?_))))
 rintro u10 σ ⟨M10, hM10, hst⟩
 obtain ⟨K1, hle, hmem, hst⟩ := hst.ft
 have hw := hM10.kx (K := K1) fun y hy => hmem _ hy; have hg1 := hg.mono hle; have hb9 := hst.get 0 rfl
 refine vQ 1 rfl (nT (aj (aj (ah rfl (vQ 1 rfl (aa rfl (H9 hw rfl rfl rfl (e := 67) rfl) rfl (vQ 1 rfl (nT (aE rfl (fun h13 => ?_) (fun h13 => ?_))))))))))
 ·refine aj (ah rfl (vQ 1 rfl (nT (aB (au (?_))))))
  exact ay rfl rfl ⟨congrArg (AV.int .i64) (by unfold kj; rw [List.getLast?_eq_none_iff.2 (List.eq_nil_of_length_eq_zero (Int.ofNat.inj (eqv (b := .ofNat 0) h13)))]), (hst.pop).weaken hle⟩
 ·refine aF (ad (aj (aR (l := [(0, []), (1, []), (2, []), (3, []), (4, []), (5, []), (6, []), (11, []), (7, [11]), (8, []), (9, []), (10, []), (12, []), (13, [])]) (by kernel_rfl) (by kernel_rfl) (an rfl rfl (IC rfl (hst.get 0 rfl) (n := 4) (vs := [_, _, _, _]) rfl) rfl (wQ 2 rfl (an rfl rfl (H9 hw rfl rfl rfl (e := 67) rfl) rfl (wQ 1 rfl ?_)))))))
  have hwp : 0 < (bR g loc).length := by rcases Nat.eq_zero_or_pos (bR g loc).length with e | e; (rw [e] at h13; cases h13); exact e
  obtain ⟨x20, hx20⟩ := cL (show (bR g loc).length - 1 < (bR g loc).length from by omega)
  refine Ic (e := 67) (m := 2) hw hx20 rfl rfl rfl rfl (congrArg (fun z => some (AV.int .i64 z)) (nj (b := 1) (by omega) hw.bG)) (fun _ => rfl) (fun p20 vs20 hp20 hl20 hr20 => ?_)
  obtain rfl := hr20
  refine an rfl rfl (cr hst hp20 rfl (by kernel_rfl) rfl) rfl (ue hst rfl rfl (Ix (cs := [.int .i64 0, .int .i64 0, .int .i64 0, .int .i64 0, .int .i64 0])) (fun _ => rfl) (fun σ b2 hst => ?_))
  refine dt rfl rfl (It rfl rfl rfl) (fun _ => rfl) (wz hG hg1 _ _ hst) (fun σ hst => ?_)
  refine ⟨(bP (np rfl rfl rfl rfl rfl (cs := [.int .i64 0, .int .i64 0, .int .i64 0, .int .i64 0, .int .i64 0]) (e := 56) (by kernel_rfl) (hst.get 0 rfl) (by kernel_rfl)) aY), ?_⟩
  refine wQ 3 rfl (lK hst rfl rfl (Io rfl rfl rfl (hst.get 0 rfl) (m := 5) rfl rfl (cells' := [_, _, _, _, _]) rfl) rfl (fun σ hst => ?_))
  refine ⟨aY, ?_⟩
  refine wQ 1 rfl (ba (ad (aj (ah rfl (aa rfl (Iz 4 rfl) rfl (aa rfl (Ia rfl (hst.get 0 rfl) rfl) rfl (vQ 1 rfl (nT (aB ?_)))))))))
  exact ay rfl rfl ⟨congrArg (AV.int .i64) (by unfold kj; rw [List.getLast?_eq_getElem?, hx20]), (hst.pop.pop).weaken hle⟩
end Go.Ev
namespace Go.Ev
variable [Env]
def nO (m : List Int) (x0 x1 x2 x3 x4 x5 : Int) : Prop := [x0, x1, x2, x3, x4, x5] = m ++ List.replicate (6 - m.length) 0
abbrev c6 (x0 x1 x2 x3 x4 x5 : Int) (a b c d : AV) : List AV := [.int .i64 x0, .int .i64 x1, .int .i64 x2, .int .i64 x3, .int .i64 x4, .int .i64 x5, a, b, c, d]
abbrev vm : List AV := [.int .i64 0, .int .i64 0, .int .i64 0, .int .i64 0, .int .i64 0, .int .i64 0, .aq, .aq, .aq, .aq]
theorem nO.le {m : List Int} {x0 x1 x2 x3 x4 x5 : Int} (h : nO m x0 x1 x2 x3 x4 x5) : m.length ≤ 6 := by
 have := congrArg List.length h
 rw [List.length_append, List.length_replicate] at this
 have e : [x0, x1, x2, x3, x4, x5].length = 6 := rfl
 omega
theorem nO.at_ {m : List Int} {x0 x1 x2 x3 x4 x5 : Int} (h : nO m x0 x1 x2 x3 x4 x5) {a b c d : AV} {ln : Nat} (hl : ln < m.length) : ∃ y, m[ln]? = some y ∧ nth (c6 x0 x1 x2 x3 x4 x5 a b c d) (0 + ln * 1) = some (.int .i64 y) := by
 have h6 := h.le
 obtain ⟨y, hy⟩ := cL hl
 have : [x0, x1, x2, x3, x4, x5][ln]? = some y := by rw [show [x0, x1, x2, x3, x4, x5] = _ from h, List.getElem?_append_left hl]; exact hy
 refine ⟨y, hy, ?_⟩
 rw [dO, Nat.mul_one, Nat.zero_add]
 have hl6 : ln < 6 := by omega
 match ln, hl6 with
 | 0, _ | 1, _ | 2, _ | 3, _ | 4, _ | 5, _ => cases this; rfl
theorem nO.set {m : List Int} {x0 x1 x2 x3 x4 x5 : Int} (h : nO m x0 x1 x2 x3 x4 x5) {a b c d : AV} {ln : Nat} (hl : ln < m.length) (v : Int) : ∃ y0 y1 y2 y3 y4 y5, cI [.int .i64 v] (c6 x0 x1 x2 x3 x4 x5 a b c d) (0 + ln * 1) = c6 y0 y1 y2 y3 y4 y5 a b c d ∧ nO (m.set ln v) y0 y1 y2 y3 y4 y5 := by
 have h6 := h.le
 have hs : [x0, x1, x2, x3, x4, x5].set ln v = m.set ln v ++ List.replicate (6 - (m.set ln v).length) 0 := by rw [show [x0, x1, x2, x3, x4, x5] = _ from h, List.set_append_left _ _ hl, List.length_set]
 have hl6 : ln < 6 := by omega
 match ln, hl6 with
 | 0, _ => exact ⟨v, x1, x2, x3, x4, x5, rfl, hs⟩
 | 1, _ => exact ⟨x0, v, x2, x3, x4, x5, rfl, hs⟩
 | 2, _ => exact ⟨x0, x1, v, x3, x4, x5, rfl, hs⟩
 | 3, _ => exact ⟨x0, x1, x2, v, x4, x5, rfl, hs⟩
 | 4, _ => exact ⟨x0, x1, x2, x3, v, x5, rfl, hs⟩
 | 5, _ => exact ⟨x0, x1, x2, x3, x4, v, rfl, hs⟩
theorem qj {α : Type} {K : KP} {m b e n : Nat} {R : α → List AV → Prop} (h : K b (.row (List.replicate n .aq) e false)) (hn : n ≤ 1000000) : bC K 1 (RL K m R) (List.replicate n []) (.slice b 0 n (.known n)) := by
 refine .inr ⟨b, 0, _, _, e, false, by rw [List.length_replicate], .inr ⟨_, rfl, by rw [List.length_replicate]; exact Nat.le_refl _⟩, h, by simp, by rw [List.length_replicate]; omega, fun i x hx => ?_⟩
 have hi : i < n := by have := (List.getElem?_eq_some_iff.1 hx).1; simpa using this
 have hx' := List.eq_of_mem_replicate (List.mem_of_getElem? hx)
 subst hx'
 refine ⟨.aq, ?_, .inl ⟨rfl, rfl⟩⟩
 rw [Nat.zero_add, Nat.mul_one, List.drop_replicate, List.take_replicate, show min 1 (n - i) = 1 by omega]
 rfl
theorem gX {k : Nat} {l : List XC} {r : XM} {t : Nat} {c : XC} {row : List cS} (h1 : l[t]? = some c) (h2 : r.g.threads[t]? = some row) {e : Int} (h : jf k c row r.g = e) (he : bk e 0 = false) : eN k l r t = (none, e) := by
 unfold eN
 rw [h1, h2]
 dsimp only
 rw [h, he]; rfl
theorem kU {k : Nat} {l : List XC} {r : XM} {t : Nat} {c : XC} {row : List cS} (h1 : l[t]? = some c) (h2 : r.g.threads[t]? = some row) (h : jf k c row r.g = 0) {p : wK} (hp : eM (cC k c row).1 r.mem r.g = p) : eN k l r t = wB p (.ofNat (t + 1)) r.g := by
 unfold eN
 rw [h1, h2]
 dsimp only
 rw [h, hp]; rfl
end Go.Ev
namespace Go.Ev
variable [Env]
theorem na {P : Program} {ev : Operand → Option AV} {t e w n : Nat} {k k' : IntKind} {z : List AV} {lo co : Operand} (ht : P.underlying t = some (.slice e)) (hw : (P.info? e).map (·.bytes) = some w) (hz : (dZ P e).bind cf = some z)
  (hs : ((P.info? e).any fun j => Nat.beq (b0 z) j.size && Nat.ble 1 j.size) = true) (hl : ev lo = some (.int k (.ofNat n))) (hc : ev co = some (.int k' (.ofNat n))) (hn : w * n ≤ 1048576) (hn' : n ≤ 1048576) :
  ey P ev (.makeSlice t lo co) = some (.row (dT z n) e false, .slice n n) := by
 obtain ⟨j, hj, rfl⟩ := Option.map_eq_some_iff.1 hw
 rw [hj] at hs
 simp only [Option.any_some, Bool.and_eq_true] at hs
 simp only [ey, ht, hl, hc, hj, hz]
 rw [hs.1, hs.2, show Nat.ble n n = true by rw [Nat.ble_eq]; exact Nat.le_refl _, show Nat.ble (j.bytes * n) 1048576 = true by rw [Nat.ble_eq]; exact hn, show Nat.ble n 1048576 = true by rw [Nat.ble_eq]; exact hn']
 rfl
theorem te {P : Program} {G : Cx} {t : PT AV} {σ : av} {ops : Array Oper} {o : Oper} {i k b e n : Nat} {cs : List AV} (hi : ops[i]? = some o) (hw : bj ops t o = some true) (hd : o.dst = some k) (hg : t.get k = some (.slice b 0 n (.known n))) (hk : kindOf P o.op = .alloc) (ha : ey P (aX G t) o.op = some (.row cs e false, .slice n n)) (hm : σ.m.get b = some (.row cs e false)) (hb : dn.beqL cs cs = true) : gj P G ops t σ i = true := by
 unfold gj
 rw [hi]
 dsimp only
 rw [hw]
 dsimp only
 rw [hd]
 dsimp only
 rw [show t.get (posOf k) = some (.slice b 0 n (.known n)) from hg]
 dsimp only
 rw [hk]
 dsimp only
 simp only [ha, hm, hb, Nat.beq_refl, Bool.and_self]
theorem s8 (n : Nat) : dn.beqL (List.replicate n AV.aq) (List.replicate n AV.aq) = true := by
 induction n with
 | zero => rfl
 | succ n ih => rw [List.replicate_succ]; exact dg rfl ih
section
variable {P : Program} {G : Cx} {n : Nat} {t : PT AV} {σ : av} {Q : Ex → PT AV → av → Prop}
end
end Go.Ev
namespace Go.Ev
variable [Env]
open Go.Proofs
set_option maxRecDepth 4000
set_option maxHeartbeats 8000000
theorem lk {g : XG} {th pl : Int} {e : cS} {fr : cW} {er : Int} (h : fm g th e fr pl = (none, er)) : bk er 0 = false := by
 have key : er = 2 ∨ er = 9 ∨ er = 3 := by
  unfold fm at h
  cases h1 : bk (bJ g) 0 with
  | false => rw [h1] at h; cases h; exact .inl rfl
  | true =>
   rw [h1] at h
   cases h2 : cd th 1 with
   | true => rw [h2] at h; cases h; exact .inr (.inl rfl)
   | false =>
    rw [h2] at h
    cases h3 : cd (.ofNat g.threads.length) th with
    | true => rw [h3] at h; cases h; exact .inr (.inl rfl)
    | false =>
     rw [h3] at h
     simp only [Bool.not_true, cond_false] at h
     split at h
     ·rename_i row frow _ _
      cases h4 : cd (.ofNat row.length) 14 with
      | false => rw [h4] at h; cases h; exact .inr (.inr rfl)
      | true =>
       rw [h4] at h
       simp only [Bool.not_true, cond_false] at h
       generalize (bif bH e then (bif cd pl 1 then true else cd (.ofNat (bR g e.loc).length) pl) else !bk pl 0) = q at h
       cases q with
       | true => cases h; exact .inl rfl
       | false =>
        simp only [cond_false] at h
        generalize bk (bJ _) 0 = q2 at h
        cases q2 with
        | true => cases h
        | false => cases h; exact .inl rfl
     ·cases h; exact .inr (.inl rfl)
 rcases key with rfl | rfl | rfl <;> rfl
def F7 (init : List Int) (t : Nat) : XG := ⟨init, List.replicate t [], List.replicate t [], List.replicate init.length []⟩
theorem GS {G : Cx} (hG : Plain G) {K : KP} {init : List Int} {vi : AV} (hi : bC K 1 dE init vi) (hi6 : init.length ≤ 6) {t : Nat} (ht : t ≤ 4) {σ : av} {L : Own} (hst : St σ K L) :
  a7 Tryz.prog G 14 [vi, .int .i64 (.ofNat t)] σ fun v σ' => ∃ K1 a b c d, v = .tuple [.agg [a, b, c, d], .int .i64 0] ∧ KP.le K K1 ∧ eX K1 (F7 init t) a b c d ∧ St σ' K1 L := by
 refine a8 hG Tryz.func14 rfl (t := (PT.leaf.put (some (vi)) 0).put (some (.int .i64 (.ofNat t))) 1) (by rfl) (aj (ah rfl (bp hst rfl (Ix (cs := [.aq, .aq, .aq, .aq])) (fun _ => rfl) (fun σ b1 hst => ?_))))
 refine vQ 1 rfl (nT (aj (aj (ah rfl (vQ 2 rfl (aL rfl (al rfl) (fun _ => rfl) (fun h8 => ?_) (fun h8 => ?_)))))))
 ·exact absurd (show 4 < t from bW (a := 4) h8) (by omega)
 ·refine vQ 1 rfl (aa rfl (H9 hi rfl rfl rfl (e := 2) rfl) rfl (vQ 2 rfl (nT (aE rfl (fun h12 => ?_) (fun h12 => ?_)))))
  ·exact absurd (show 6 < init.length from bW (a := 6) h12) (by omega)
  ·refine aF (ad (aj (aj (ah rfl (vQ 2 rfl (nT (aE rfl (fun h15 => ?_) (fun h15 => ?_))))))))
   ·exact absurd (show t < 0 from bW (b := 0) h15) (by omega)
   ·refine aF (ad (aj (aR (l := [(0, []), (2, []), (3, []), (4, []), (5, []), (6, []), (7, []), (8, []), (1, [3, 5, 8]), (9, []), (10, []), (11, [])]) (by kernel_rfl) (by kernel_rfl) (wQ 2 rfl (sD hst rfl rfl (gm (e := 57) (w := 24) (z := [.aq]) (by kernel_rfl) (by kernel_rfl) (by kernel_rfl) (by kernel_rfl) rfl rfl (by omega) (by omega)) (fun _ => rfl) (fun σ b2 hst => ?_))))))
    rw [eH] at hst
    refine wQ 1 rfl (sD hst rfl rfl (gm (e := 74) (w := 24) (z := [.aq]) (by kernel_rfl) (by kernel_rfl) (by kernel_rfl) (by kernel_rfl) rfl rfl (by omega) (by omega)) (fun _ => rfl) (fun σ b3 hst => ?_))
    rw [eH] at hst
    refine wQ 1 rfl (an rfl rfl (H9 hi rfl rfl rfl (e := 2) rfl) rfl (sD hst rfl rfl (gm (e := 74) (w := 24) (z := [.aq]) (by kernel_rfl) (by kernel_rfl) (by kernel_rfl) (by kernel_rfl) rfl rfl (by omega) (by omega)) (fun _ => rfl) (fun σ b4 hst => ?_)))
    rw [eH] at hst
    refine gR rfl rfl (It rfl rfl rfl) (fun _ => rfl) (qk hG hi (by omega) hst) ?_
    rintro u18 σ ⟨M18, hM18, hst⟩
    refine ⟨(bP (te rfl rfl rfl rfl rfl ((na (e := 57) (w := 24) (z := [.aq]) (by kernel_rfl) (by kernel_rfl) (by kernel_rfl) (by kernel_rfl) rfl rfl (by omega) (by omega)).trans (by rw [eH])) (hst.bl.pop.pop.get 0 rfl) (s8 _)) (bP (te rfl rfl rfl rfl rfl ((na (e := 74) (w := 24) (z := [.aq]) (by kernel_rfl) (by kernel_rfl) (by kernel_rfl) (by kernel_rfl) rfl rfl (by omega) (by omega)).trans (by rw [eH])) (hst.bl.pop.get 0 rfl) (s8 _)) (bP (te rfl rfl rfl rfl rfl ((na (e := 74) (w := 24) (z := [.aq]) (by kernel_rfl) (by kernel_rfl) (by kernel_rfl) (by kernel_rfl) rfl rfl (by omega) (by omega)).trans (by rw [eH])) (hst.bl.get 0 rfl) (s8 _)) aY))), ?_⟩
    refine an rfl rfl (br (places := [(0, 1), (1, 1), (2, 1), (3, 1)]) (zero := [.aq, .aq, .aq, .aq]) (cs := [_, _, _, _]) (by kernel_rfl) (by kernel_rfl) (by kernel_rfl) (bL rfl rfl hM18.leaf.1 rfl (bL rfl rfl rfl rfl (bL rfl rfl rfl rfl (bL rfl rfl rfl rfl cX)))) (by kernel_rfl)) rfl (l8 hst (.eS (.there (.there (.there .here)))) rfl rfl (Io rfl rfl rfl (hst.bl.pop.pop.pop.get 0 rfl) (m := 4) rfl (ae hM18.leaf.2 rfl) (cells' := [_, _, _, _]) rfl) rfl (fun σ hst => ?_))
    refine ⟨aY, ?_⟩
    refine wQ 1 rfl (ba (ad (aB ?_)))
    obtain ⟨K1, hle, hmem, hst⟩ := St.ft (σ := σ) (K := K) (L := _ :: L) (M := M18 ++ [_, _, _]) (by rw [List.append_assoc]; exact hst)
    have q4 := hmem _ (List.mem_append_right _ (.head _)); have q3 := hmem _ (List.mem_append_right _ (.tail _ (.head _))); have q2 := hmem _ (List.mem_append_right _ (.tail _ (.tail _ (.head _)))); have q1 := hM18.kx (K := K1) fun y hy => hmem _ (List.mem_append_left _ hy); dsimp only at q2 q3 q4
    exact bm rfl rfl (hst.get 0 rfl) (m := 4) (by kernel_rfl) rfl rfl ⟨K1, _, _, _, _, rfl, hle, ⟨q1, qj q2 (by omega), qj q3 (by omega), qj q4 (by omega)⟩, hst.pop⟩
theorem AX {G : Cx} (hG : Plain G) (hfk : G.fk 70 = true) (hov : G.ov 106 = true) {K : KP} (hgl : kP G K) {k : Nat} {l : List XC} {lv : AV} (hl : bC K 2 (jM K k) l lv) {r : XM} (hinv : jr k l r) {a b c d : AV} (hg : eX K r.g a b c d) {x0 x1 x2 x3 x4 x5 : Int} (hm : nO r.mem x0 x1 x2 x3 x4 x5) {t : Nat} (ht : t < l.length) {σ : av} {L : Own} (hst : St σ K L) :
  a7 Tryz.prog G 54 [.agg [.int .i64 x0, .int .i64 x1, .int .i64 x2, .int .i64 x3, .int .i64 x4, .int .i64 x5, a, b, c, d], lv, .int .i64 (.ofNat (t + 1))] σ fun v σ' => (∃ e, v = .tuple [.agg vm, .int .i64 e] ∧ e = (eN k l r t).2 ∧ bk e 0 = false ∧ St σ' K L) ∨
   ∃ K1 r' y0 y1 y2 y3 y4 y5 a' b' c' d', KP.le K K1 ∧ eN k l r t = (some r', 0) ∧ v = .tuple [.agg [.int .i64 y0, .int .i64 y1, .int .i64 y2, .int .i64 y3, .int .i64 y4, .int .i64 y5, a', b', c', d'], .int .i64 0] ∧ eX K1 r'.g a' b' c' d' ∧ nO r'.mem y0 y1 y2 y3 y4 y5 ∧ St σ' K1 L := by
 obtain ⟨xc, hxc⟩ := cL ht
 obtain ⟨row, hrow⟩ := cL (show t < r.g.threads.length from by rw [hinv.len]; exact ht)
 have hck := hinv.GY
 obtain ⟨b1_, b2_, b3_, _⟩ := cq hck
 have hrl := b3_ row (List.mem_of_getElem? hrow)
 have hord := kY hck
 have hnx := pd.2 (hinv.fits t xc row hxc hrow)
 have hll := hl.bG
 obtain ⟨N, hN⟩ : ∃ N, N = (cC k xc row).1 := ⟨_, rfl⟩
 have hml := hinv.mem
 have hle1 : KP.le K K := KP.le_refl K
 have hgl0 := hgl
 refine a8 hG Tryz.func54 rfl (t := ((PT.leaf.put (some (.agg [.int .i64 x0, .int .i64 x1, .int .i64 x2, .int .i64 x3, .int .i64 x4, .int .i64 x5, a, b, c, d])) 0).put (some (lv)) 1).put (some (.int .i64 (.ofNat (t + 1)))) 2) (by rfl) (aj (ah rfl (bp hst rfl (cU rfl rfl) (fun _ => rfl) (fun σ b1 hst => ?_))))
 refine bp hst rfl (Ix (cs := [.int .i64 0, .int .i64 0, .int .i64 0, .int .i64 0, .int .i64 0, .int .i64 0, .aq, .aq, .aq, .aq])) (fun _ => rfl) (fun σ b2 hst => ?_)
 refine vQ 1 rfl (nS rfl (aa rfl (Iz 6 rfl) rfl (aa rfl (Iz 1 rfl) rfl (aa rfl (Ia rfl (hst.get 1 rfl) rfl) rfl (vQ 2 rfl (Ib (e := 57) (m := 1) hg.threads hrow rfl rfl rfl (congrArg (fun z => some (AV.int .i64 z)) (fj (t := t) (by have := hl.bG; omega))) (fun _ => rfl) (fun p21 vs21 hp21 hl21 hr21 => ?_)))))))
 have hr21' := hr21; obtain ⟨v21, rfl, hk21⟩ := hr21'
 refine aa rfl (Ih hst hp21 rfl rfl) rfl (vQ 1 rfl (nS rfl (vQ 3 rfl (Ib (e := 33) (m := 2) hl hxc rfl rfl rfl (congrArg (fun z => some (AV.int .i64 z)) (fj (t := t) (by have := hl.bG; omega))) (fun _ => rfl) (fun p27 vs27 hp27 hl27 hr27 => ?_)))))
 have hr27' := hr27; obtain ⟨v27, rfl, hk27⟩ := hr27'
 refine aa rfl (cr hst hp27 rfl (by kernel_rfl) rfl) rfl (vQ 1 rfl (a9 rfl (It rfl rfl rfl) (fun _ => rfl) (DP hG hgl hk27 hk21 (by omega) hst) (fun σ hst => ?_)))
 rw [hnx, ← hN]
 refine vQ 3 rfl (bp hst rfl (Ix (cs := [.int .i64 0, .int .i64 0, .int .i64 0, .int .i64 0, .int .i64 0, .int .i64 0, .int .i64 0, .int .i64 0, .int .i64 0, .int .i64 0, .int .i64 0])) (fun _ => rfl) (fun σ b3 hst => ?_))
 refine bA hst rfl (Io rfl rfl rfl (hst.get 0 rfl) (m := 11) rfl rfl (cells' := [_, _, _, _, _, _, _, _, _, _, _]) rfl) rfl (fun σ hst => ?_)
 refine vQ 1 rfl (nT (aj (aP (aj (ah rfl (vQ 1 rfl (aL rfl (aA rfl rfl rfl) (fun _ => rfl) (fun h35 => ?_) (fun h35 => ?_))))))))
 ·exact absurd h35 (by decide)
 ·refine vQ 1 rfl (nT (aI rfl (aj (ah rfl (aa rfl (Iz 10 rfl) rfl (aa rfl (Ia rfl (hst.get 0 rfl) rfl) rfl (aL rfl (aA rfl rfl rfl) (fun _ => rfl) (fun h41 => ?_) (fun h41 => ?_))))))))
  ·refine vQ 1 rfl (nT (aC rfl (aj (ah rfl (aa rfl (Is (places := [(0, 6), (6, 4)]) (zero := [.int .i64 0, .int .i64 0, .int .i64 0, .int .i64 0, .int .i64 0, .int .i64 0, .aq, .aq, .aq, .aq]) (cs := [_, _, _, _, _, _, _, _, _, _]) rfl) rfl (dY hst rfl (Io rfl rfl rfl (hst.get 1 rfl) (m := 10) rfl rfl (cells' := [_, _, _, _, _, _, _, _, _, _]) rfl) rfl (fun σ hst => ?_)))))))
   refine vQ 1 rfl (nT (aB (aD (au (?_)))))
   exact bm rfl rfl (hst.get 1 rfl) (m := 10) (by kernel_rfl) rfl rfl (.inl ⟨10, rfl, by rw [gX hxc hrow (e := 10) (by unfold jf; rw [hnx, ← hN]; rw [show bf (bk N.fin 0) = true from h41]; rfl) rfl], rfl, hst.pop.pop.pop⟩)
  ·refine vQ 1 rfl (nT (aI rfl (aj (ah rfl (vQ 1 rfl (aa rfl (H9 hk21 rfl rfl rfl (e := 56) rfl) rfl (aL rfl (aA rfl rfl rfl) (fun _ => rfl) (fun h46 => ?_) (fun h46 => ?_))))))))
   ·refine vQ 1 rfl (nT (aC rfl (aj (ah rfl (aa rfl (Is (places := [(0, 6), (6, 4)]) (zero := [.int .i64 0, .int .i64 0, .int .i64 0, .int .i64 0, .int .i64 0, .int .i64 0, .aq, .aq, .aq, .aq]) (cs := [_, _, _, _, _, _, _, _, _, _]) rfl) rfl (dY hst rfl (Io rfl rfl rfl (hst.get 1 rfl) (m := 10) rfl rfl (cells' := [_, _, _, _, _, _, _, _, _, _]) rfl) rfl (fun σ hst => ?_)))))))
    refine vQ 1 rfl (nT (aB (aD (au (?_)))))
    exact bm rfl rfl (hst.get 1 rfl) (m := 10) (by kernel_rfl) rfl rfl (.inl ⟨3, rfl, by rw [gX hxc hrow (e := 3) (by unfold jf; rw [hnx, ← hN]; rw [show bf (bk N.fin 0) = false from h41, show bf (cd (.ofNat row.length) 14) = true from h46]; rfl) rfl], rfl, hst.pop.pop.pop⟩)
   ·refine vQ 1 rfl (nT (aI rfl (aF (aK (ad (aj (ah rfl (aa rfl (Iz 0 rfl) rfl (aa rfl (Iz 1 rfl) rfl (aa rfl (Ia rfl (hst.get 0 rfl) rfl) rfl (vQ 1 rfl (af ?_))))))))))))
    refine ad (aj (aj (ah rfl (aa rfl (Iz 5 rfl) rfl (aa rfl (Iz 0 rfl) rfl (aa rfl (Ia rfl (hst.get 0 rfl) rfl) rfl (vQ 1 rfl (nT (aE rfl (fun h54 => ?_) (fun h54 => ?_))))))))))
    ·have hloc : mr N = N.ask.loc := by unfold mr; rw [show bf (bk N.ask.kind 0) = true from h54]; rfl
     refine ah rfl (aa rfl (Iz 5 rfl) rfl (aa rfl (Iz 1 rfl) rfl (aa rfl (Ia rfl (hst.get 0 rfl) rfl) rfl (vQ 1 rfl (nT (aj (aj (ah rfl (aa rfl (Iz 0 rfl) rfl (aa rfl (Iz 0 rfl) rfl (aa rfl (Ia rfl (hst.get 0 rfl) rfl) rfl (vQ 1 rfl ?_))))))))))))
     refine aL rfl (al rfl) (fun _ => rfl) (fun h62 => ?_) (fun h62 => ?_)
     ·refine vQ 2 rfl (aL rfl (al rfl) (fun _ => rfl) (fun h65 => ?_) (fun h65 => ?_))
      ·refine vQ 8 rfl (nT (aC rfl (aj (ah rfl (aa rfl (Is (places := [(0, 6), (6, 4)]) (zero := [.int .i64 0, .int .i64 0, .int .i64 0, .int .i64 0, .int .i64 0, .int .i64 0, .aq, .aq, .aq, .aq]) (cs := [_, _, _, _, _, _, _, _, _, _]) rfl) rfl (dY hst rfl (Io rfl rfl rfl (hst.get 1 rfl) (m := 10) rfl rfl (cells' := [_, _, _, _, _, _, _, _, _, _]) rfl) rfl (fun σ hst => ?_)))))))
       refine vQ 1 rfl (nT (aB (au (?_))))
       exact bm rfl rfl (hst.get 1 rfl) (m := 10) (by kernel_rfl) rfl rfl (.inl ⟨2, rfl, by rw [gX hxc hrow (e := 2) (by unfold jf; rw [hnx, ← hN]; rw [show bf (bk N.fin 0) = false from h41, show bf (cd (.ofNat row.length) 14) = false from h46, show eK N r.g = true from by unfold eK; rw [show bf (bk N.event.kind 4) = true from h62, hloc, h65]; rfl]; rfl) rfl], rfl, hst.pop.pop.pop⟩)
      ·refine vQ 1 rfl (aa rfl (Iz 6 rfl) rfl (aa rfl (Iz 0 rfl) rfl (aa rfl (Ia rfl (hst.get 2 rfl) rfl) rfl (aa rfl (H9 hg.init rfl rfl rfl (e := 2) rfl) rfl (vQ 3 rfl (nT (aE rfl (fun h73 => ?_) (fun h73 => ?_))))))))
       ·refine aj (ah rfl (aa rfl (Is (places := [(0, 6), (6, 4)]) (zero := [.int .i64 0, .int .i64 0, .int .i64 0, .int .i64 0, .int .i64 0, .int .i64 0, .aq, .aq, .aq, .aq]) (cs := [_, _, _, _, _, _, _, _, _, _]) rfl) rfl (dY hst rfl (Io rfl rfl rfl (hst.get 1 rfl) (m := 10) rfl rfl (cells' := [_, _, _, _, _, _, _, _, _, _]) rfl) rfl (fun σ hst => ?_))))
        refine vQ 1 rfl (nT (aB (au (?_))))
        exact bm rfl rfl (hst.get 1 rfl) (m := 10) (by kernel_rfl) rfl rfl (.inl ⟨2, rfl, by rw [gX hxc hrow (e := 2) (by unfold jf; rw [hnx, ← hN]; rw [show bf (bk N.fin 0) = false from h41, show bf (cd (.ofNat row.length) 14) = false from h46, show eK N r.g = true from by unfold eK; rw [show bf (bk N.event.kind 4) = true from h62, hloc, h65]; exact h73]; rfl) rfl], rfl, hst.pop.pop.pop⟩)
       ·refine aF (ad (aj (ah rfl ?_)))
        have hbad : eK N r.g = false := by unfold eK; rw [show bf (bk N.event.kind 4) = true from h62, hloc, h65]; exact h73
        have h62x : bk N.event.kind 4 = false := bM h62
        have herr : jf k xc row r.g = 0 := by unfold jf; rw [hnx, ← hN, show bf (bk N.fin 0) = false from h41, show bf (cd (.ofNat row.length) 14) = false from h46, hbad]; rfl
        refine aa rfl (Iz 0 rfl) rfl (aa rfl (IC rfl (hst.get 0 rfl) (n := 5) (vs := [_, _, _, _, _]) rfl) rfl (aa rfl (Is (places := [(0, 1), (1, 1)]) (zero := [.int .i64 0, .int .i64 0]) (cs := [_, _]) rfl) rfl (bp hst rfl (Ix (cs := [.int .i64 0, .int .i64 0, .int .i64 0, .int .i64 0, .int .i64 0])) (fun _ => rfl) (fun σ b4 hst => ?_))))
        refine bp hst rfl (Ix (cs := [.int .i64 0, .int .i64 0])) (fun _ => rfl) (fun σ b5 hst => ?_)
        refine dY hst rfl (Io rfl rfl rfl (hst.get 1 rfl) (m := 5) rfl rfl (cells' := [_, _, _, _, _]) rfl) rfl (fun σ hst => ?_)
        refine bA hst rfl (Io rfl rfl rfl (hst.get 0 rfl) (m := 2) rfl rfl (cells' := [_, _]) rfl) rfl (fun σ hst => ?_)
        refine vQ 1 rfl (nT (aj (aj (ah rfl (aa rfl (Iz 0 rfl) rfl (aa rfl (Iz 0 rfl) rfl (aa rfl (Ia rfl (hst.get 2 rfl) rfl) rfl (vQ 1 rfl (nT (aE rfl (fun h81 => ?_) (fun h81 => ?_)))))))))))
        ·refine aj (ah rfl (aa rfl (Iz 6 rfl) rfl (aa rfl (IC rfl (hst.get 4 rfl) (n := 4) (vs := [_, _, _, _]) rfl) rfl (vQ 1 rfl ?_))))
         obtain ⟨ln, hln, hlt⟩ := kV (n := N) (g := r.g) hbad h62x
         refine cJ rfl (aM rfl rfl (show _ = some [AV.agg [a, b, c, d], AV.int .i64 (.ofNat ln)] from by rw [← hln, ← hloc]; rfl) (by kernel_rfl)) (fun _ => rfl) (pC hG hg (fun l hl => by have := hord l hl; omega) (.ofNat ln) hst) ?_
         rintro u85 σ ⟨M85, hM85, hst⟩
         obtain ⟨K1, hle1, hmem, hst⟩ := hst.ft; have hw := hM85.kx (K := K1) fun y hy => hmem _ hy; clear hmem; replace hg := hg.mono hle1
         refine vQ 1 rfl (nT (aj (aj (ah rfl (aa rfl (Iz 5 rfl) rfl (aa rfl (Iz 0 rfl) rfl (aa rfl (Ia rfl (hst.get 2 rfl) rfl) rfl (vQ 1 rfl (nT (aE rfl (fun h89 => ?_) (fun h89 => ?_)))))))))))
         ·refine aj (aR (l := [(0, []), (1, []), (2, []), (3, []), (4, []), (5, []), (6, []), (7, []), (8, []), (9, []), (10, [])]) (by kernel_rfl) (by kernel_rfl) (an rfl rfl (Iz 5 rfl) rfl (an rfl rfl (IC rfl (hst.get 2 rfl) (n := 5) (vs := [_, _, _, _, _]) rfl) rfl (wQ 1 rfl (an rfl rfl (Iz 0 rfl) rfl ?_)))))
          obtain ⟨y96, hy96, hy96n⟩ := hm.at_ (a := a) (b := b) (c := c) (d := d) (show ln < r.mem.length from by rw [hml]; exact hlt)
          refine an rfl rfl (pB (n := 6) (e := 2) (m := 1) (by kernel_rfl) (by kernel_rfl) rfl (show _ = some (AV.int .i64 (.ofNat ln)) from by rw [← hln, ← hloc]; rfl) (by omega)) rfl (an rfl rfl (ax rfl (hst.get 4 rfl) (by kernel_rfl) hy96n) rfl (dt rfl rfl (It rfl rfl rfl) (fun _ => rfl) (xD hG N.ask y96 hst) (fun σ hst => ?_)))
          refine ⟨aY, ?_⟩
          refine wQ 3 rfl (zR hst rfl rfl (Io rfl rfl rfl (hst.get 1 rfl) (m := 5) rfl rfl (cells' := [_, _, _, _, _]) rfl) rfl (fun σ hst => ?_))
          refine ⟨aY, ?_⟩
          refine ba (ad (ah rfl (vQ 2 rfl (aa rfl (H9 hw rfl rfl rfl (e := 67) rfl) rfl (vQ 1 rfl ?_)))))
          have hwp : 0 < (bR r.g (.ofNat ln)).length := by obtain ⟨q, hq⟩ := jC hck hlt; rw [eL (by rw [hck]; rfl) hq]; exact Nat.succ_pos _
          obtain ⟨x104, hx104⟩ := cL (show (bR r.g (.ofNat ln)).length - 1 < (bR r.g (.ofNat ln)).length from by omega)
          refine Ib (e := 67) (m := 2) hw hx104 rfl rfl rfl (congrArg (fun z => some (AV.int .i64 z)) (nj (b := 1) (by omega) hw.bG)) (fun _ => rfl) (fun p104 vs104 hp104 hl104 hr104 => ?_)
          obtain rfl := hr104
          refine aa rfl (cr hst hp104 rfl (by kernel_rfl) rfl) rfl (bA hst rfl (Io rfl rfl rfl (hst.get 0 rfl) (m := 2) rfl rfl (cells' := [_, _]) rfl) rfl (fun σ hst => ?_))
          refine nS rfl (aa rfl (Iz 0 rfl) rfl (aa rfl (Ia rfl (hst.get 1 rfl) rfl) rfl (vQ 1 rfl (nT (aE rfl (fun h108 => ?_) (fun h108 => ?_))))))
          ·refine aj (ah rfl (vQ 1 rfl (aa rfl (H9 hw rfl rfl rfl (e := 67) rfl) rfl (vQ 1 rfl (nT (ah rfl (vQ 1 rfl (aa rfl (Iz 4 rfl) rfl (aa rfl (Ia rfl (hst.get 1 rfl) rfl) rfl (aa rfl (Iz 0 rfl) rfl (aa rfl (pB (n := 6) (e := 2) (m := 1) (by kernel_rfl) (by kernel_rfl) rfl (show _ = some (AV.int .i64 (.ofNat ln)) from by rw [← hln, ← hloc]; rfl) (by omega)) rfl ?_)))))))))))
           obtain ⟨z0, z1, z2, z3, z4, z5, hsp, hm2⟩ := hm.set (a := a) (b := b) (c := c) (d := d) (show ln < r.mem.length from by rw [hml]; exact hlt) (bZ N.ask y96).write
           refine dM hst (.there (.there (.there (.there .here)))) rfl (aJ rfl rfl rfl (hst.get 4 rfl) (m := 1) (by kernel_rfl) rfl (by show 0 + ln * 1 + 1 ≤ 10; omega) rfl (cells' := c6 z0 z1 z2 z3 z4 z5 a b c d) hsp) rfl (fun σ hst => ?_)
           refine nS rfl (aa rfl (Iz 6 rfl) rfl (aa rfl (IC rfl (hst.get 4 rfl) (n := 4) (vs := [_, _, _, _]) rfl) rfl (vQ 1 rfl (aa rfl (IC rfl (hst.get 1 rfl) (n := 5) (vs := [_, _, _, _, _]) rfl) rfl (aa rfl (IC rfl (hst.get 0 rfl) (n := 2) (vs := [_, _]) rfl) rfl (vQ 1 rfl ?_))))))
           have hgl1 := hgl0
           have hplan : eM (cC k xc row).1 r.mem r.g = ⟨bZ N.ask y96, x104, .ofNat (bR r.g (.ofNat ln)).length, r.mem.set ln (bZ N.ask y96).write⟩ := by rw [← hN]; unfold eM; rw [hln]; dsimp only; rw [bM h81, show bf (bk N.ask.kind 0) = true from h89]; simp only [cond_true, cond_false]; rw [show (Int.ofNat ln).toNat = ln from rfl, hy96, List.getLast?_eq_getElem?, hx104]; simp only [Option.getD_some]; rw [show bf (bk (bZ N.ask y96).kind 1) = true from h108]; rfl
           have hdo := kU hxc hrow herr hplan
           refine cJ rfl (It rfl rfl rfl) (fun _ => rfl) (uS hG hfk hov hg _ _ (bZ N.ask y96) x104 hst) ?_
           rintro _ σ (⟨er, hadd, rfl, hst⟩ | ⟨g2, a2, b2, c2, d2, M2, hadd, rfl, hA, hst⟩)
           ·have hS : eN k l r t = (none, er) := by rw [hdo]; unfold wB; rw [show fm r.g (.ofNat (t + 1)) (bZ N.ask y96) x104 (.ofNat (bR r.g (.ofNat ln)).length) = (none, er) from hadd]
            have her := lk hadd
            refine vQ 3 rfl (aa rfl (Iz 6 rfl) rfl (dM hst (.there (.there (.there (.there .here)))) rfl (Io rfl rfl rfl (hst.get 4 rfl) (m := 4) rfl rfl (cells' := [_, _, _, _, _, _, _, _, _, _]) rfl) rfl (fun σ hst => ?_)))
            refine vQ 1 rfl (nT (aj (aj (ah rfl (vQ 2 rfl (nT (aE rfl (fun h128 => ?_) (fun h128 => ?_))))))))
            ·refine aj (ah rfl (aa rfl (Is (places := [(0, 6), (6, 4)]) (zero := [.int .i64 0, .int .i64 0, .int .i64 0, .int .i64 0, .int .i64 0, .int .i64 0, .aq, .aq, .aq, .aq]) (cs := [_, _, _, _, _, _, _, _, _, _]) rfl) rfl (vQ 1 rfl (iH hst rfl (Io rfl rfl rfl (hst.get 3 rfl) (m := 10) rfl rfl (cells' := [_, _, _, _, _, _, _, _, _, _]) rfl) rfl (fun σ hst => ?_)))))
             refine vQ 1 rfl (nT (aB (au (?_))))
             exact bm rfl rfl (hst.get 3 rfl) (m := 10) (by kernel_rfl) rfl rfl (.inl ⟨er, rfl, by rw [hS], her, (hst.pop.pop.pop.pop.pop).weaken hle1⟩)
            ·exact absurd h128 (by rw [her]; decide)
           ·have hS : eN k l r t = (some ⟨r.mem.set ln (bZ N.ask y96).write, g2⟩, 0) := by rw [hdo]; unfold wB; rw [show fm r.g (.ofNat (t + 1)) (bZ N.ask y96) x104 (.ofNat (bR r.g (.ofNat ln)).length) = (some g2, 0) from hadd]
            replace hst := hst.keeps
            refine vQ 3 rfl (aa rfl (Iz 6 rfl) rfl (dM hst (.there (.there (.there (.there .here)))) rfl (Io rfl rfl rfl (hst.get 4 rfl) (m := 4) rfl (ae hA.init.leaf.2 (ae hA.threads.leaf.2 (ae hA.from_.leaf.2 (ae hA.order.leaf.2 az)))) (cells' := [_, _, _, _, _, _, _, _, _, _]) rfl) rfl (fun σ hst => ?_)))
            refine vQ 1 rfl (nT (aj (aj (ah rfl (vQ 2 rfl (nT (aE rfl (fun h128 => ?_) (fun h128 => ?_))))))))
            ·exact absurd h128 (by decide)
            ·refine aF (ad (aj (ah rfl (aa rfl (IC rfl (hst.get 4 rfl) (n := 10) (vs := [_, _, _, _, _, _, _, _, _, _]) rfl) rfl (iH hst rfl (Io rfl rfl rfl (hst.get 3 rfl) (m := 10) rfl (ae rfl (ae rfl (ae rfl (ae rfl (ae rfl (ae rfl (ae hA.init.leaf.2 (ae hA.threads.leaf.2 (ae hA.from_.leaf.2 (ae hA.order.leaf.2 az)))))))))) (cells' := [_, _, _, _, _, _, _, _, _, _]) rfl) rfl (fun σ hst => ?_))))))
             refine vQ 1 rfl (nT (aB ?_))
             exact bm rfl rfl (hst.get 3 rfl) (m := 10) (by kernel_rfl) rfl rfl (.inr ⟨_, _, _, _, _, _, _, _, _, _, _, _, KP.le_trans hle1 (KP.cQ _ _), hS, rfl, hA, hm2, hst.pop.pop.pop.pop.pop⟩)
          ·refine aF (ad (aj (ah rfl (aa rfl (Iz 6 rfl) rfl (aa rfl (IC rfl (hst.get 4 rfl) (n := 4) (vs := [_, _, _, _]) rfl) rfl (vQ 1 rfl (aa rfl (IC rfl (hst.get 1 rfl) (n := 5) (vs := [_, _, _, _, _]) rfl) rfl (aa rfl (IC rfl (hst.get 0 rfl) (n := 2) (vs := [_, _]) rfl) rfl (vQ 1 rfl ?_)))))))))
           have hgl1 := hgl0
           have hplan : eM (cC k xc row).1 r.mem r.g = ⟨bZ N.ask y96, x104, 0, r.mem⟩ := by rw [← hN]; unfold eM; rw [hln]; dsimp only; rw [bM h81, show bf (bk N.ask.kind 0) = true from h89]; simp only [cond_true, cond_false]; rw [show (Int.ofNat ln).toNat = ln from rfl, hy96, List.getLast?_eq_getElem?, hx104]; simp only [Option.getD_some]; rw [show bf (bk (bZ N.ask y96).kind 1) = false from h108]; rfl
           have hdo := kU hxc hrow herr hplan
           refine cJ rfl (It rfl rfl rfl) (fun _ => rfl) (uS hG hfk hov hg _ _ (bZ N.ask y96) x104 hst) ?_
           rintro _ σ (⟨er, hadd, rfl, hst⟩ | ⟨g2, a2, b2, c2, d2, M2, hadd, rfl, hA, hst⟩)
           ·have hS : eN k l r t = (none, er) := by rw [hdo]; unfold wB; rw [show fm r.g (.ofNat (t + 1)) (bZ N.ask y96) x104 (0) = (none, er) from hadd]
            have her := lk hadd
            refine vQ 3 rfl (aa rfl (Iz 6 rfl) rfl (dM hst (.there (.there (.there (.there .here)))) rfl (Io rfl rfl rfl (hst.get 4 rfl) (m := 4) rfl rfl (cells' := [_, _, _, _, _, _, _, _, _, _]) rfl) rfl (fun σ hst => ?_)))
            refine vQ 1 rfl (nT (aj (aj (ah rfl (vQ 2 rfl (nT (aE rfl (fun h128 => ?_) (fun h128 => ?_))))))))
            ·refine aj (ah rfl (aa rfl (Is (places := [(0, 6), (6, 4)]) (zero := [.int .i64 0, .int .i64 0, .int .i64 0, .int .i64 0, .int .i64 0, .int .i64 0, .aq, .aq, .aq, .aq]) (cs := [_, _, _, _, _, _, _, _, _, _]) rfl) rfl (vQ 1 rfl (iH hst rfl (Io rfl rfl rfl (hst.get 3 rfl) (m := 10) rfl rfl (cells' := [_, _, _, _, _, _, _, _, _, _]) rfl) rfl (fun σ hst => ?_)))))
             refine vQ 1 rfl (nT (aB (au (?_))))
             exact bm rfl rfl (hst.get 3 rfl) (m := 10) (by kernel_rfl) rfl rfl (.inl ⟨er, rfl, by rw [hS], her, (hst.pop.pop.pop.pop.pop).weaken hle1⟩)
            ·exact absurd h128 (by rw [her]; decide)
           ·have hS : eN k l r t = (some ⟨r.mem, g2⟩, 0) := by rw [hdo]; unfold wB; rw [show fm r.g (.ofNat (t + 1)) (bZ N.ask y96) x104 (0) = (some g2, 0) from hadd]
            replace hst := hst.keeps
            refine vQ 3 rfl (aa rfl (Iz 6 rfl) rfl (dM hst (.there (.there (.there (.there .here)))) rfl (Io rfl rfl rfl (hst.get 4 rfl) (m := 4) rfl (ae hA.init.leaf.2 (ae hA.threads.leaf.2 (ae hA.from_.leaf.2 (ae hA.order.leaf.2 az)))) (cells' := [_, _, _, _, _, _, _, _, _, _]) rfl) rfl (fun σ hst => ?_)))
            refine vQ 1 rfl (nT (aj (aj (ah rfl (vQ 2 rfl (nT (aE rfl (fun h128 => ?_) (fun h128 => ?_))))))))
            ·exact absurd h128 (by decide)
            ·refine aF (ad (aj (ah rfl (aa rfl (IC rfl (hst.get 4 rfl) (n := 10) (vs := [_, _, _, _, _, _, _, _, _, _]) rfl) rfl (iH hst rfl (Io rfl rfl rfl (hst.get 3 rfl) (m := 10) rfl (ae rfl (ae rfl (ae rfl (ae rfl (ae rfl (ae rfl (ae hA.init.leaf.2 (ae hA.threads.leaf.2 (ae hA.from_.leaf.2 (ae hA.order.leaf.2 az)))))))))) (cells' := [_, _, _, _, _, _, _, _, _, _]) rfl) rfl (fun σ hst => ?_))))))
             refine vQ 1 rfl (nT (aB ?_))
             exact bm rfl rfl (hst.get 3 rfl) (m := 10) (by kernel_rfl) rfl rfl (.inr ⟨_, _, _, _, _, _, _, _, _, _, _, _, KP.le_trans hle1 (KP.cQ _ _), hS, rfl, hA, hm, hst.pop.pop.pop.pop.pop⟩)
         ·exact absurd (h89.symm.trans h54) (by decide)
        ·exact absurd (h81.symm.trans h62) (by decide)
     ·refine vQ 11 rfl (nT (aI rfl (aF (ad (aj (ah rfl ?_))))))
      have hbad : eK N r.g = false := by unfold eK; rw [show bf (bk N.event.kind 4) = false from h62]; rfl
      have herr : jf k xc row r.g = 0 := by unfold jf; rw [hnx, ← hN, show bf (bk N.fin 0) = false from h41, show bf (cd (.ofNat row.length) 14) = false from h46, hbad]; rfl
      refine aa rfl (Iz 0 rfl) rfl (aa rfl (IC rfl (hst.get 0 rfl) (n := 5) (vs := [_, _, _, _, _]) rfl) rfl (aa rfl (Is (places := [(0, 1), (1, 1)]) (zero := [.int .i64 0, .int .i64 0]) (cs := [_, _]) rfl) rfl (bp hst rfl (Ix (cs := [.int .i64 0, .int .i64 0, .int .i64 0, .int .i64 0, .int .i64 0])) (fun _ => rfl) (fun σ b4 hst => ?_))))
      refine bp hst rfl (Ix (cs := [.int .i64 0, .int .i64 0])) (fun _ => rfl) (fun σ b5 hst => ?_)
      refine dY hst rfl (Io rfl rfl rfl (hst.get 1 rfl) (m := 5) rfl rfl (cells' := [_, _, _, _, _]) rfl) rfl (fun σ hst => ?_)
      refine bA hst rfl (Io rfl rfl rfl (hst.get 0 rfl) (m := 2) rfl rfl (cells' := [_, _]) rfl) rfl (fun σ hst => ?_)
      refine vQ 1 rfl (nT (aj (aj (ah rfl (aa rfl (Iz 0 rfl) rfl (aa rfl (Iz 0 rfl) rfl (aa rfl (Ia rfl (hst.get 2 rfl) rfl) rfl (vQ 1 rfl (nT (aE rfl (fun h81 => ?_) (fun h81 => ?_)))))))))))
      ·exact absurd (h81.symm.trans h62) (by decide)
      ·refine aF (ad (aj (ah rfl (aa rfl (Iz 6 rfl) rfl (aa rfl (IC rfl (hst.get 4 rfl) (n := 4) (vs := [_, _, _, _]) rfl) rfl (vQ 1 rfl (aa rfl (IC rfl (hst.get 1 rfl) (n := 5) (vs := [_, _, _, _, _]) rfl) rfl (aa rfl (IC rfl (hst.get 0 rfl) (n := 2) (vs := [_, _]) rfl) rfl (vQ 1 rfl ?_)))))))))
       have hgl1 := hgl0
       have hplan : eM (cC k xc row).1 r.mem r.g = ⟨N.event, ⟨0, 0⟩, 0, r.mem⟩ := by rw [← hN]; exact mH (a6 h81)
       have hdo := kU hxc hrow herr hplan
       refine cJ rfl (It rfl rfl rfl) (fun _ => rfl) (uS hG hfk hov hg _ _ (N.event) ⟨0, 0⟩ hst) ?_
       rintro _ σ (⟨er, hadd, rfl, hst⟩ | ⟨g2, a2, b2, c2, d2, M2, hadd, rfl, hA, hst⟩)
       ·have hS : eN k l r t = (none, er) := by rw [hdo]; unfold wB; rw [show fm r.g (.ofNat (t + 1)) (N.event) ⟨0, 0⟩ (0) = (none, er) from hadd]
        have her := lk hadd
        refine vQ 3 rfl (aa rfl (Iz 6 rfl) rfl (dM hst (.there (.there (.there (.there .here)))) rfl (Io rfl rfl rfl (hst.get 4 rfl) (m := 4) rfl rfl (cells' := [_, _, _, _, _, _, _, _, _, _]) rfl) rfl (fun σ hst => ?_)))
        refine vQ 1 rfl (nT (aj (aj (ah rfl (vQ 2 rfl (nT (aE rfl (fun h128 => ?_) (fun h128 => ?_))))))))
        ·refine aj (ah rfl (aa rfl (Is (places := [(0, 6), (6, 4)]) (zero := [.int .i64 0, .int .i64 0, .int .i64 0, .int .i64 0, .int .i64 0, .int .i64 0, .aq, .aq, .aq, .aq]) (cs := [_, _, _, _, _, _, _, _, _, _]) rfl) rfl (vQ 1 rfl (iH hst rfl (Io rfl rfl rfl (hst.get 3 rfl) (m := 10) rfl rfl (cells' := [_, _, _, _, _, _, _, _, _, _]) rfl) rfl (fun σ hst => ?_)))))
         refine vQ 1 rfl (nT (aB (au (?_))))
         exact bm rfl rfl (hst.get 3 rfl) (m := 10) (by kernel_rfl) rfl rfl (.inl ⟨er, rfl, by rw [hS], her, (hst.pop.pop.pop.pop.pop).weaken hle1⟩)
        ·exact absurd h128 (by rw [her]; decide)
       ·have hS : eN k l r t = (some ⟨r.mem, g2⟩, 0) := by rw [hdo]; unfold wB; rw [show fm r.g (.ofNat (t + 1)) (N.event) ⟨0, 0⟩ (0) = (some g2, 0) from hadd]
        replace hst := hst.keeps
        refine vQ 3 rfl (aa rfl (Iz 6 rfl) rfl (dM hst (.there (.there (.there (.there .here)))) rfl (Io rfl rfl rfl (hst.get 4 rfl) (m := 4) rfl (ae hA.init.leaf.2 (ae hA.threads.leaf.2 (ae hA.from_.leaf.2 (ae hA.order.leaf.2 az)))) (cells' := [_, _, _, _, _, _, _, _, _, _]) rfl) rfl (fun σ hst => ?_)))
        refine vQ 1 rfl (nT (aj (aj (ah rfl (vQ 2 rfl (nT (aE rfl (fun h128 => ?_) (fun h128 => ?_))))))))
        ·exact absurd h128 (by decide)
        ·refine aF (ad (aj (ah rfl (aa rfl (IC rfl (hst.get 4 rfl) (n := 10) (vs := [_, _, _, _, _, _, _, _, _, _]) rfl) rfl (iH hst rfl (Io rfl rfl rfl (hst.get 3 rfl) (m := 10) rfl (ae rfl (ae rfl (ae rfl (ae rfl (ae rfl (ae rfl (ae hA.init.leaf.2 (ae hA.threads.leaf.2 (ae hA.from_.leaf.2 (ae hA.order.leaf.2 az)))))))))) (cells' := [_, _, _, _, _, _, _, _, _, _]) rfl) rfl (fun σ hst => ?_))))))
         refine vQ 1 rfl (nT (aB ?_))
         exact bm rfl rfl (hst.get 3 rfl) (m := 10) (by kernel_rfl) rfl rfl (.inr ⟨_, _, _, _, _, _, _, _, _, _, _, _, KP.le_trans hle1 (KP.cQ _ _), hS, rfl, hA, hm, hst.pop.pop.pop.pop.pop⟩)
    ·have hloc : mr N = N.event.loc := by unfold mr; rw [show bf (bk N.ask.kind 0) = false from h54]; rfl
     refine aF (ad (aj (aj (ah rfl (aa rfl (Iz 0 rfl) rfl (aa rfl (Iz 0 rfl) rfl (aa rfl (Ia rfl (hst.get 0 rfl) rfl) rfl (vQ 1 rfl (aL rfl (al rfl) (fun _ => rfl) (fun h62 => ?_) (fun h62 => ?_))))))))))
     ·refine vQ 2 rfl (aL rfl (al rfl) (fun _ => rfl) (fun h65 => ?_) (fun h65 => ?_))
      ·refine vQ 8 rfl (nT (aC rfl (aj (ah rfl (aa rfl (Is (places := [(0, 6), (6, 4)]) (zero := [.int .i64 0, .int .i64 0, .int .i64 0, .int .i64 0, .int .i64 0, .int .i64 0, .aq, .aq, .aq, .aq]) (cs := [_, _, _, _, _, _, _, _, _, _]) rfl) rfl (dY hst rfl (Io rfl rfl rfl (hst.get 1 rfl) (m := 10) rfl rfl (cells' := [_, _, _, _, _, _, _, _, _, _]) rfl) rfl (fun σ hst => ?_)))))))
       refine vQ 1 rfl (nT (aB (au (?_))))
       exact bm rfl rfl (hst.get 1 rfl) (m := 10) (by kernel_rfl) rfl rfl (.inl ⟨2, rfl, by rw [gX hxc hrow (e := 2) (by unfold jf; rw [hnx, ← hN]; rw [show bf (bk N.fin 0) = false from h41, show bf (cd (.ofNat row.length) 14) = false from h46, show eK N r.g = true from by unfold eK; rw [show bf (bk N.event.kind 4) = true from h62, hloc, h65]; rfl]; rfl) rfl], rfl, hst.pop.pop.pop⟩)
      ·refine vQ 1 rfl (aa rfl (Iz 6 rfl) rfl (aa rfl (Iz 0 rfl) rfl (aa rfl (Ia rfl (hst.get 2 rfl) rfl) rfl (aa rfl (H9 hg.init rfl rfl rfl (e := 2) rfl) rfl (vQ 3 rfl (nT (aE rfl (fun h73 => ?_) (fun h73 => ?_))))))))
       ·refine aj (ah rfl (aa rfl (Is (places := [(0, 6), (6, 4)]) (zero := [.int .i64 0, .int .i64 0, .int .i64 0, .int .i64 0, .int .i64 0, .int .i64 0, .aq, .aq, .aq, .aq]) (cs := [_, _, _, _, _, _, _, _, _, _]) rfl) rfl (dY hst rfl (Io rfl rfl rfl (hst.get 1 rfl) (m := 10) rfl rfl (cells' := [_, _, _, _, _, _, _, _, _, _]) rfl) rfl (fun σ hst => ?_))))
        refine vQ 1 rfl (nT (aB (au (?_))))
        exact bm rfl rfl (hst.get 1 rfl) (m := 10) (by kernel_rfl) rfl rfl (.inl ⟨2, rfl, by rw [gX hxc hrow (e := 2) (by unfold jf; rw [hnx, ← hN]; rw [show bf (bk N.fin 0) = false from h41, show bf (cd (.ofNat row.length) 14) = false from h46, show eK N r.g = true from by unfold eK; rw [show bf (bk N.event.kind 4) = true from h62, hloc, h65]; exact h73]; rfl) rfl], rfl, hst.pop.pop.pop⟩)
       ·refine aF (ad (aj (ah rfl ?_)))
        have hbad : eK N r.g = false := by unfold eK; rw [show bf (bk N.event.kind 4) = true from h62, hloc, h65]; exact h73
        have h62x : bk N.event.kind 4 = false := bM h62
        have herr : jf k xc row r.g = 0 := by unfold jf; rw [hnx, ← hN, show bf (bk N.fin 0) = false from h41, show bf (cd (.ofNat row.length) 14) = false from h46, hbad]; rfl
        refine aa rfl (Iz 0 rfl) rfl (aa rfl (IC rfl (hst.get 0 rfl) (n := 5) (vs := [_, _, _, _, _]) rfl) rfl (aa rfl (Is (places := [(0, 1), (1, 1)]) (zero := [.int .i64 0, .int .i64 0]) (cs := [_, _]) rfl) rfl (bp hst rfl (Ix (cs := [.int .i64 0, .int .i64 0, .int .i64 0, .int .i64 0, .int .i64 0])) (fun _ => rfl) (fun σ b4 hst => ?_))))
        refine bp hst rfl (Ix (cs := [.int .i64 0, .int .i64 0])) (fun _ => rfl) (fun σ b5 hst => ?_)
        refine dY hst rfl (Io rfl rfl rfl (hst.get 1 rfl) (m := 5) rfl rfl (cells' := [_, _, _, _, _]) rfl) rfl (fun σ hst => ?_)
        refine bA hst rfl (Io rfl rfl rfl (hst.get 0 rfl) (m := 2) rfl rfl (cells' := [_, _]) rfl) rfl (fun σ hst => ?_)
        refine vQ 1 rfl (nT (aj (aj (ah rfl (aa rfl (Iz 0 rfl) rfl (aa rfl (Iz 0 rfl) rfl (aa rfl (Ia rfl (hst.get 2 rfl) rfl) rfl (vQ 1 rfl (nT (aE rfl (fun h81 => ?_) (fun h81 => ?_)))))))))))
        ·refine aj (ah rfl (aa rfl (Iz 6 rfl) rfl (aa rfl (IC rfl (hst.get 4 rfl) (n := 4) (vs := [_, _, _, _]) rfl) rfl (vQ 1 rfl ?_))))
         obtain ⟨ln, hln, hlt⟩ := kV (n := N) (g := r.g) hbad h62x
         refine cJ rfl (aM rfl rfl (show _ = some [AV.agg [a, b, c, d], AV.int .i64 (.ofNat ln)] from by rw [← hln, ← hloc]; rfl) (by kernel_rfl)) (fun _ => rfl) (pC hG hg (fun l hl => by have := hord l hl; omega) (.ofNat ln) hst) ?_
         rintro u85 σ ⟨M85, hM85, hst⟩
         obtain ⟨K1, hle1, hmem, hst⟩ := hst.ft; have hw := hM85.kx (K := K1) fun y hy => hmem _ hy; clear hmem; replace hg := hg.mono hle1
         refine vQ 1 rfl (nT (aj (aj (ah rfl (aa rfl (Iz 5 rfl) rfl (aa rfl (Iz 0 rfl) rfl (aa rfl (Ia rfl (hst.get 2 rfl) rfl) rfl (vQ 1 rfl (nT (aE rfl (fun h89 => ?_) (fun h89 => ?_)))))))))))
         ·exact absurd (h89.symm.trans h54) (by decide)
         ·refine aF (ad (aj (ah rfl (aa rfl (Iz 0 rfl) rfl (aa rfl (Ia rfl (hst.get 1 rfl) rfl) rfl (vQ 1 rfl (nT (aE rfl (fun h108 => ?_) (fun h108 => ?_)))))))))
          ·refine aj (ah rfl (vQ 1 rfl (aa rfl (H9 hw rfl rfl rfl (e := 67) rfl) rfl (vQ 1 rfl (nT (ah rfl (vQ 1 rfl (aa rfl (Iz 4 rfl) rfl (aa rfl (Ia rfl (hst.get 1 rfl) rfl) rfl (aa rfl (Iz 0 rfl) rfl (aa rfl (pB (n := 6) (e := 2) (m := 1) (by kernel_rfl) (by kernel_rfl) rfl (show _ = some (AV.int .i64 (.ofNat ln)) from by rw [← hln, ← hloc]; rfl) (by omega)) rfl ?_)))))))))))
           obtain ⟨z0, z1, z2, z3, z4, z5, hsp, hm2⟩ := hm.set (a := a) (b := b) (c := c) (d := d) (show ln < r.mem.length from by rw [hml]; exact hlt) (N.event).write
           refine dM hst (.there (.there (.there (.there .here)))) rfl (aJ rfl rfl rfl (hst.get 4 rfl) (m := 1) (by kernel_rfl) rfl (by show 0 + ln * 1 + 1 ≤ 10; omega) rfl (cells' := c6 z0 z1 z2 z3 z4 z5 a b c d) hsp) rfl (fun σ hst => ?_)
           refine nS rfl (aa rfl (Iz 6 rfl) rfl (aa rfl (IC rfl (hst.get 4 rfl) (n := 4) (vs := [_, _, _, _]) rfl) rfl (vQ 1 rfl (aa rfl (IC rfl (hst.get 1 rfl) (n := 5) (vs := [_, _, _, _, _]) rfl) rfl (aa rfl (IC rfl (hst.get 0 rfl) (n := 2) (vs := [_, _]) rfl) rfl (vQ 1 rfl ?_))))))
           have hgl1 := hgl0
           have hplan : eM (cC k xc row).1 r.mem r.g = ⟨N.event, ⟨0, 0⟩, .ofNat (bR r.g (.ofNat ln)).length, r.mem.set ln (N.event).write⟩ := by rw [← hN]; unfold eM; rw [hln]; dsimp only; rw [bM h81, show bf (bk N.ask.kind 0) = false from h89]; simp only [cond_true, cond_false]; rw [show bf (bk (N.event).kind 1) = true from h108]; rfl
           have hdo := kU hxc hrow herr hplan
           refine cJ rfl (It rfl rfl rfl) (fun _ => rfl) (uS hG hfk hov hg _ _ (N.event) ⟨0, 0⟩ hst) ?_
           rintro _ σ (⟨er, hadd, rfl, hst⟩ | ⟨g2, a2, b2, c2, d2, M2, hadd, rfl, hA, hst⟩)
           ·have hS : eN k l r t = (none, er) := by rw [hdo]; unfold wB; rw [show fm r.g (.ofNat (t + 1)) (N.event) ⟨0, 0⟩ (.ofNat (bR r.g (.ofNat ln)).length) = (none, er) from hadd]
            have her := lk hadd
            refine vQ 3 rfl (aa rfl (Iz 6 rfl) rfl (dM hst (.there (.there (.there (.there .here)))) rfl (Io rfl rfl rfl (hst.get 4 rfl) (m := 4) rfl rfl (cells' := [_, _, _, _, _, _, _, _, _, _]) rfl) rfl (fun σ hst => ?_)))
            refine vQ 1 rfl (nT (aj (aj (ah rfl (vQ 2 rfl (nT (aE rfl (fun h128 => ?_) (fun h128 => ?_))))))))
            ·refine aj (ah rfl (aa rfl (Is (places := [(0, 6), (6, 4)]) (zero := [.int .i64 0, .int .i64 0, .int .i64 0, .int .i64 0, .int .i64 0, .int .i64 0, .aq, .aq, .aq, .aq]) (cs := [_, _, _, _, _, _, _, _, _, _]) rfl) rfl (vQ 1 rfl (iH hst rfl (Io rfl rfl rfl (hst.get 3 rfl) (m := 10) rfl rfl (cells' := [_, _, _, _, _, _, _, _, _, _]) rfl) rfl (fun σ hst => ?_)))))
             refine vQ 1 rfl (nT (aB (au (?_))))
             exact bm rfl rfl (hst.get 3 rfl) (m := 10) (by kernel_rfl) rfl rfl (.inl ⟨er, rfl, by rw [hS], her, (hst.pop.pop.pop.pop.pop).weaken hle1⟩)
            ·exact absurd h128 (by rw [her]; decide)
           ·have hS : eN k l r t = (some ⟨r.mem.set ln (N.event).write, g2⟩, 0) := by rw [hdo]; unfold wB; rw [show fm r.g (.ofNat (t + 1)) (N.event) ⟨0, 0⟩ (.ofNat (bR r.g (.ofNat ln)).length) = (some g2, 0) from hadd]
            replace hst := hst.keeps
            refine vQ 3 rfl (aa rfl (Iz 6 rfl) rfl (dM hst (.there (.there (.there (.there .here)))) rfl (Io rfl rfl rfl (hst.get 4 rfl) (m := 4) rfl (ae hA.init.leaf.2 (ae hA.threads.leaf.2 (ae hA.from_.leaf.2 (ae hA.order.leaf.2 az)))) (cells' := [_, _, _, _, _, _, _, _, _, _]) rfl) rfl (fun σ hst => ?_)))
            refine vQ 1 rfl (nT (aj (aj (ah rfl (vQ 2 rfl (nT (aE rfl (fun h128 => ?_) (fun h128 => ?_))))))))
            ·exact absurd h128 (by decide)
            ·refine aF (ad (aj (ah rfl (aa rfl (IC rfl (hst.get 4 rfl) (n := 10) (vs := [_, _, _, _, _, _, _, _, _, _]) rfl) rfl (iH hst rfl (Io rfl rfl rfl (hst.get 3 rfl) (m := 10) rfl (ae rfl (ae rfl (ae rfl (ae rfl (ae rfl (ae rfl (ae hA.init.leaf.2 (ae hA.threads.leaf.2 (ae hA.from_.leaf.2 (ae hA.order.leaf.2 az)))))))))) (cells' := [_, _, _, _, _, _, _, _, _, _]) rfl) rfl (fun σ hst => ?_))))))
             refine vQ 1 rfl (nT (aB ?_))
             exact bm rfl rfl (hst.get 3 rfl) (m := 10) (by kernel_rfl) rfl rfl (.inr ⟨_, _, _, _, _, _, _, _, _, _, _, _, KP.le_trans hle1 (KP.cQ _ _), hS, rfl, hA, hm2, hst.pop.pop.pop.pop.pop⟩)
          ·refine aF (ad (aj (ah rfl (aa rfl (Iz 6 rfl) rfl (aa rfl (IC rfl (hst.get 4 rfl) (n := 4) (vs := [_, _, _, _]) rfl) rfl (vQ 1 rfl (aa rfl (IC rfl (hst.get 1 rfl) (n := 5) (vs := [_, _, _, _, _]) rfl) rfl (aa rfl (IC rfl (hst.get 0 rfl) (n := 2) (vs := [_, _]) rfl) rfl (vQ 1 rfl ?_)))))))))
           have hgl1 := hgl0
           have hplan : eM (cC k xc row).1 r.mem r.g = ⟨N.event, ⟨0, 0⟩, 0, r.mem⟩ := by rw [← hN]; unfold eM; rw [hln]; dsimp only; rw [bM h81, show bf (bk N.ask.kind 0) = false from h89]; simp only [cond_true, cond_false]; rw [show bf (bk (N.event).kind 1) = false from h108]; rfl
           have hdo := kU hxc hrow herr hplan
           refine cJ rfl (It rfl rfl rfl) (fun _ => rfl) (uS hG hfk hov hg _ _ (N.event) ⟨0, 0⟩ hst) ?_
           rintro _ σ (⟨er, hadd, rfl, hst⟩ | ⟨g2, a2, b2, c2, d2, M2, hadd, rfl, hA, hst⟩)
           ·have hS : eN k l r t = (none, er) := by rw [hdo]; unfold wB; rw [show fm r.g (.ofNat (t + 1)) (N.event) ⟨0, 0⟩ (0) = (none, er) from hadd]
            have her := lk hadd
            refine vQ 3 rfl (aa rfl (Iz 6 rfl) rfl (dM hst (.there (.there (.there (.there .here)))) rfl (Io rfl rfl rfl (hst.get 4 rfl) (m := 4) rfl rfl (cells' := [_, _, _, _, _, _, _, _, _, _]) rfl) rfl (fun σ hst => ?_)))
            refine vQ 1 rfl (nT (aj (aj (ah rfl (vQ 2 rfl (nT (aE rfl (fun h128 => ?_) (fun h128 => ?_))))))))
            ·refine aj (ah rfl (aa rfl (Is (places := [(0, 6), (6, 4)]) (zero := [.int .i64 0, .int .i64 0, .int .i64 0, .int .i64 0, .int .i64 0, .int .i64 0, .aq, .aq, .aq, .aq]) (cs := [_, _, _, _, _, _, _, _, _, _]) rfl) rfl (vQ 1 rfl (iH hst rfl (Io rfl rfl rfl (hst.get 3 rfl) (m := 10) rfl rfl (cells' := [_, _, _, _, _, _, _, _, _, _]) rfl) rfl (fun σ hst => ?_)))))
             refine vQ 1 rfl (nT (aB (au (?_))))
             exact bm rfl rfl (hst.get 3 rfl) (m := 10) (by kernel_rfl) rfl rfl (.inl ⟨er, rfl, by rw [hS], her, (hst.pop.pop.pop.pop.pop).weaken hle1⟩)
            ·exact absurd h128 (by rw [her]; decide)
           ·have hS : eN k l r t = (some ⟨r.mem, g2⟩, 0) := by rw [hdo]; unfold wB; rw [show fm r.g (.ofNat (t + 1)) (N.event) ⟨0, 0⟩ (0) = (some g2, 0) from hadd]
            replace hst := hst.keeps
            refine vQ 3 rfl (aa rfl (Iz 6 rfl) rfl (dM hst (.there (.there (.there (.there .here)))) rfl (Io rfl rfl rfl (hst.get 4 rfl) (m := 4) rfl (ae hA.init.leaf.2 (ae hA.threads.leaf.2 (ae hA.from_.leaf.2 (ae hA.order.leaf.2 az)))) (cells' := [_, _, _, _, _, _, _, _, _, _]) rfl) rfl (fun σ hst => ?_)))
            refine vQ 1 rfl (nT (aj (aj (ah rfl (vQ 2 rfl (nT (aE rfl (fun h128 => ?_) (fun h128 => ?_))))))))
            ·exact absurd h128 (by decide)
            ·refine aF (ad (aj (ah rfl (aa rfl (IC rfl (hst.get 4 rfl) (n := 10) (vs := [_, _, _, _, _, _, _, _, _, _]) rfl) rfl (iH hst rfl (Io rfl rfl rfl (hst.get 3 rfl) (m := 10) rfl (ae rfl (ae rfl (ae rfl (ae rfl (ae rfl (ae rfl (ae hA.init.leaf.2 (ae hA.threads.leaf.2 (ae hA.from_.leaf.2 (ae hA.order.leaf.2 az)))))))))) (cells' := [_, _, _, _, _, _, _, _, _, _]) rfl) rfl (fun σ hst => ?_))))))
             refine vQ 1 rfl (nT (aB ?_))
             exact bm rfl rfl (hst.get 3 rfl) (m := 10) (by kernel_rfl) rfl rfl (.inr ⟨_, _, _, _, _, _, _, _, _, _, _, _, KP.le_trans hle1 (KP.cQ _ _), hS, rfl, hA, hm, hst.pop.pop.pop.pop.pop⟩)
        ·exact absurd (h81.symm.trans h62) (by decide)
     ·refine vQ 11 rfl (nT (aI rfl (aF (ad (aj (ah rfl ?_))))))
      have hbad : eK N r.g = false := by unfold eK; rw [show bf (bk N.event.kind 4) = false from h62]; rfl
      have herr : jf k xc row r.g = 0 := by unfold jf; rw [hnx, ← hN, show bf (bk N.fin 0) = false from h41, show bf (cd (.ofNat row.length) 14) = false from h46, hbad]; rfl
      refine aa rfl (Iz 0 rfl) rfl (aa rfl (IC rfl (hst.get 0 rfl) (n := 5) (vs := [_, _, _, _, _]) rfl) rfl (aa rfl (Is (places := [(0, 1), (1, 1)]) (zero := [.int .i64 0, .int .i64 0]) (cs := [_, _]) rfl) rfl (bp hst rfl (Ix (cs := [.int .i64 0, .int .i64 0, .int .i64 0, .int .i64 0, .int .i64 0])) (fun _ => rfl) (fun σ b4 hst => ?_))))
      refine bp hst rfl (Ix (cs := [.int .i64 0, .int .i64 0])) (fun _ => rfl) (fun σ b5 hst => ?_)
      refine dY hst rfl (Io rfl rfl rfl (hst.get 1 rfl) (m := 5) rfl rfl (cells' := [_, _, _, _, _]) rfl) rfl (fun σ hst => ?_)
      refine bA hst rfl (Io rfl rfl rfl (hst.get 0 rfl) (m := 2) rfl rfl (cells' := [_, _]) rfl) rfl (fun σ hst => ?_)
      refine vQ 1 rfl (nT (aj (aj (ah rfl (aa rfl (Iz 0 rfl) rfl (aa rfl (Iz 0 rfl) rfl (aa rfl (Ia rfl (hst.get 2 rfl) rfl) rfl (vQ 1 rfl (nT (aE rfl (fun h81 => ?_) (fun h81 => ?_)))))))))))
      ·exact absurd (h81.symm.trans h62) (by decide)
      ·refine aF (ad (aj (ah rfl (aa rfl (Iz 6 rfl) rfl (aa rfl (IC rfl (hst.get 4 rfl) (n := 4) (vs := [_, _, _, _]) rfl) rfl (vQ 1 rfl (aa rfl (IC rfl (hst.get 1 rfl) (n := 5) (vs := [_, _, _, _, _]) rfl) rfl (aa rfl (IC rfl (hst.get 0 rfl) (n := 2) (vs := [_, _]) rfl) rfl (vQ 1 rfl ?_)))))))))
       have hgl1 := hgl0
       have hplan : eM (cC k xc row).1 r.mem r.g = ⟨N.event, ⟨0, 0⟩, 0, r.mem⟩ := by rw [← hN]; exact mH (a6 h81)
       have hdo := kU hxc hrow herr hplan
       refine cJ rfl (It rfl rfl rfl) (fun _ => rfl) (uS hG hfk hov hg _ _ (N.event) ⟨0, 0⟩ hst) ?_
       rintro _ σ (⟨er, hadd, rfl, hst⟩ | ⟨g2, a2, b2, c2, d2, M2, hadd, rfl, hA, hst⟩)
       ·have hS : eN k l r t = (none, er) := by rw [hdo]; unfold wB; rw [show fm r.g (.ofNat (t + 1)) (N.event) ⟨0, 0⟩ (0) = (none, er) from hadd]
        have her := lk hadd
        refine vQ 3 rfl (aa rfl (Iz 6 rfl) rfl (dM hst (.there (.there (.there (.there .here)))) rfl (Io rfl rfl rfl (hst.get 4 rfl) (m := 4) rfl rfl (cells' := [_, _, _, _, _, _, _, _, _, _]) rfl) rfl (fun σ hst => ?_)))
        refine vQ 1 rfl (nT (aj (aj (ah rfl (vQ 2 rfl (nT (aE rfl (fun h128 => ?_) (fun h128 => ?_))))))))
        ·refine aj (ah rfl (aa rfl (Is (places := [(0, 6), (6, 4)]) (zero := [.int .i64 0, .int .i64 0, .int .i64 0, .int .i64 0, .int .i64 0, .int .i64 0, .aq, .aq, .aq, .aq]) (cs := [_, _, _, _, _, _, _, _, _, _]) rfl) rfl (vQ 1 rfl (iH hst rfl (Io rfl rfl rfl (hst.get 3 rfl) (m := 10) rfl rfl (cells' := [_, _, _, _, _, _, _, _, _, _]) rfl) rfl (fun σ hst => ?_)))))
         refine vQ 1 rfl (nT (aB (au (?_))))
         exact bm rfl rfl (hst.get 3 rfl) (m := 10) (by kernel_rfl) rfl rfl (.inl ⟨er, rfl, by rw [hS], her, (hst.pop.pop.pop.pop.pop).weaken hle1⟩)
        ·exact absurd h128 (by rw [her]; decide)
       ·have hS : eN k l r t = (some ⟨r.mem, g2⟩, 0) := by rw [hdo]; unfold wB; rw [show fm r.g (.ofNat (t + 1)) (N.event) ⟨0, 0⟩ (0) = (some g2, 0) from hadd]
        replace hst := hst.keeps
        refine vQ 3 rfl (aa rfl (Iz 6 rfl) rfl (dM hst (.there (.there (.there (.there .here)))) rfl (Io rfl rfl rfl (hst.get 4 rfl) (m := 4) rfl (ae hA.init.leaf.2 (ae hA.threads.leaf.2 (ae hA.from_.leaf.2 (ae hA.order.leaf.2 az)))) (cells' := [_, _, _, _, _, _, _, _, _, _]) rfl) rfl (fun σ hst => ?_)))
        refine vQ 1 rfl (nT (aj (aj (ah rfl (vQ 2 rfl (nT (aE rfl (fun h128 => ?_) (fun h128 => ?_))))))))
        ·exact absurd h128 (by decide)
        ·refine aF (ad (aj (ah rfl (aa rfl (IC rfl (hst.get 4 rfl) (n := 10) (vs := [_, _, _, _, _, _, _, _, _, _]) rfl) rfl (iH hst rfl (Io rfl rfl rfl (hst.get 3 rfl) (m := 10) rfl (ae rfl (ae rfl (ae rfl (ae rfl (ae rfl (ae rfl (ae hA.init.leaf.2 (ae hA.threads.leaf.2 (ae hA.from_.leaf.2 (ae hA.order.leaf.2 az)))))))))) (cells' := [_, _, _, _, _, _, _, _, _, _]) rfl) rfl (fun σ hst => ?_))))))
         refine vQ 1 rfl (nT (aB ?_))
         exact bm rfl rfl (hst.get 3 rfl) (m := 10) (by kernel_rfl) rfl rfl (.inr ⟨_, _, _, _, _, _, _, _, _, _, _, _, KP.le_trans hle1 (KP.cQ _ _), hS, rfl, hA, hm, hst.pop.pop.pop.pop.pop⟩)
theorem DW {K : KP} {m : List Int} {x0 x1 x2 x3 x4 x5 : Int} (hm : nO m x0 x1 x2 x3 x4 x5) {a b c d : AV} {bb e : Nat} {ro : Bool} (hb : K bb (.row (c6 x0 x1 x2 x3 x4 x5 a b c d) e ro)) : bC K 1 dE m (.slice bb 0 m.length (.known 6)) := by
 have h6 := hm.le
 refine .inr ⟨bb, 0, _, _, e, ro, rfl, .inr ⟨_, rfl, h6⟩, hb, by show 0 + m.length * 1 ≤ 10; omega, by omega, fun i x hx => ?_⟩
 have hi := (List.getElem?_eq_some_iff.1 hx).1
 obtain ⟨y, hy, hn⟩ := hm.at_ (a := a) (b := b) (c := c) (d := d) hi
 rw [hx] at hy
 cases hy
 rw [dO] at hn
 rw [bV hn]; rfl
theorem xS {P : Program} {σ : av} {K : KP} {L : Own} {bb e : Nat} {a b c d : AV} (hst : St σ K ((bb, .row (c6 0 0 0 0 0 0 a b c d) e false) :: L)) {init : List Int} {vi : AV} (hi : bC K 1 dE init vi) (h6 : init.length ≤ 6) {ts : Array TypeId} {t ty : TypeId} (ht : ts[0]? = some t) (hu : P.underlying t = some (.slice ty)) (hj : (P.info? ty).map (·.size) = some 1) :
  ∃ (σ' : av) (v : AV) (y0 y1 y2 y3 y4 y5 : Int), n9 P σ ts (.slice bb 0 6 (.known 6)) vi = .val v σ' ∧ St σ' K ((bb, .row (c6 y0 y1 y2 y3 y4 y5 a b c d) e false) :: L) ∧ nO init y0 y1 y2 y3 y4 y5 := by
 obtain ⟨j, hj', hsz⟩ := Option.map_eq_some_iff.1 hj
 obtain ⟨news, s1, s2, s3, s4⟩ := nG hst hi dE.leaf
 have hnews : news = init.map gZ := by
  refine List.ext_getElem? fun i => ?_
  rw [List.getElem?_map]
  cases hx : init[i]? with
  | none =>
   show news[i]? = none
   rw [List.getElem?_eq_none_iff] at hx ⊢
   rw [s2]; omega
  | some x =>
   have := s4 i x hx
   rw [Nat.mul_one] at this
   have hlt : i < news.length := by have := (List.getElem?_eq_some_iff.1 hx).1; omega
   rw [List.drop_eq_getElem_cons hlt] at this
   have h1 : [news[i]] = [AV.int .i64 x] := this
   rw [List.getElem?_eq_getElem hlt]
   exact congrArg some (List.cons.inj h1).1
 subst hnews
 have hb := hst.get 0 rfl
 unfold n9
 rw [ht]
 dsimp only
 rw [hu]
 dsimp only
 rw [hj']
 dsimp only
 rw [hsz, s1]
 dsimp only
 match init, h6 with
 | [], _ => exact ⟨σ, _, 0, 0, 0, 0, 0, 0, rfl, hst, rfl⟩
 | [q0], _ => simp only [hb]; exact ⟨_, _, q0, 0, 0, 0, 0, 0, rfl, hst.lP _, rfl⟩
 | [q0, q1], _ => simp only [hb]; exact ⟨_, _, q0, q1, 0, 0, 0, 0, rfl, hst.lP _, rfl⟩
 | [q0, q1, q2], _ => simp only [hb]; exact ⟨_, _, q0, q1, q2, 0, 0, 0, rfl, hst.lP _, rfl⟩
 | [q0, q1, q2, q3], _ => simp only [hb]; exact ⟨_, _, q0, q1, q2, q3, 0, 0, rfl, hst.lP _, rfl⟩
 | [q0, q1, q2, q3, q4], _ => simp only [hb]; exact ⟨_, _, q0, q1, q2, q3, q4, 0, rfl, hst.lP _, rfl⟩
 | [q0, q1, q2, q3, q4, q5], _ => simp only [hb]; exact ⟨_, _, q0, q1, q2, q3, q4, q5, rfl, hst.lP _, rfl⟩
theorem xq {P : Program} {G : Cx} {ev : Operand → Option AV} {σ : av} {cl : Call} {so xo : Operand} {s x : AV} {r : HR} (hc : cl.callee = .builtin .copy) (ha : cl.args.toList = [so, xo]) (h1 : ev so = some s) (h2 : ev xo = some x) (h : n9 P σ cl.argTypes s x = r) : cZ P G ev σ (.call cl) = r := by
 refine ie (by simp [kindOf, hc]) ?_
 have he : pZ ev [so, xo] = some [s, x] := by
  unfold pZ bK
  simp only [h1, h2]
 simp only [eI, hc, ha, he, h]
theorem FE {g : XG} (h : bJ g = 0) : Gf g := by
 obtain ⟨b1, b2, b3, b4, b5, b6, b7⟩ := cq h
 exact ⟨by omega, by omega, fun l hl => by have := b3 l hl; omega, by omega, fun l hl => by have := mR b6 b4 b3 l hl; omega, by omega, fun l hl => by have := kY h l hl; omega⟩
theorem GK {G : Cx} (hG : Plain G) {K : KP} {g : XG} {a b c d : AV} (hck : bJ g = 0) (hg : eX K g a b c d) {σ : av} {L : Own} (hst : St σ K L) : a7 Tryz.prog G 93 [.agg [a, b, c, d]] σ fun v σ' => ∃ K1 a' b' c' d', v = .agg [a', b', c', d'] ∧ KP.le K K1 ∧ eX K1 g a' b' c' d' ∧ St σ' K1 L := by
 refine a8 hG Tryz.func93 rfl (t := PT.leaf.put (some (.agg [a, b, c, d])) 0) (by rfl) (aj (ah rfl (bp hst rfl (cU rfl rfl) (fun _ => rfl) (fun σ b1 hst => ?_))))
 refine bp hst rfl (Ix (cs := [.aq, .aq, .aq, .aq])) (fun _ => rfl) (fun σ b2 hst => ?_)
 refine nS rfl (aa rfl (IC rfl (hst.get 1 rfl) (n := 4) (vs := [_, _, _, _]) rfl) rfl (cJ rfl (It rfl rfl rfl) (fun _ => rfl) (sa hG hg (FE hck) hst) ?_))
 rintro _ σ ⟨u1, M1, q2, us2, M2, q3, us3, M3, q4, us4, M4, rfl, hO, hst⟩
 have hfew := FE hck
 obtain ⟨K1, hle, hmem, hst⟩ := St.ft (σ := σ) (K := K) (L := _ :: _ :: L) (M := M4 ++ (q4, .row us4 74 false) :: (M3 ++ (q3, .row us3 74 false) :: (M2 ++ (q2, .row us2 57 false) :: M1))) (by simpa only [List.append_assoc, List.cons_append] using hst)
 have hg1 : eX K1 g u1 (.slice q2 0 g.threads.length (.known g.threads.length)) (.slice q3 0 g.from_.length (.known g.from_.length)) (.slice q4 0 g.order.length (.known g.order.length)) := mF (T1 := 57) (T2 := 74) (T3 := 74) hO.init hO.threads hO.from_ hO.order (fun e he => hmem e (by simp [he])) (fun e he => hmem e (by simp [he])) (fun e he => hmem e (by simp [he])) (fun e he => hmem e (by simp [he])) (hmem (q2, .row us2 57 false) (by simp)) (hmem (q3, .row us3 74 false) (by simp)) (hmem (q4, .row us4 74 false) (by simp)) rfl rfl rfl (by have := hfew.2.1; omega) (by have := hfew.2.2.2.1; omega) (by have := hfew.2.2.2.2.2.1; omega)
 clear hmem
 refine bA hst rfl (Io rfl rfl rfl (hst.get 0 rfl) (m := 4) rfl (ae hg1.init.leaf.2 (ae hg1.threads.leaf.2 (ae hg1.from_.leaf.2 (ae hg1.order.leaf.2 az)))) (cells' := [_, _, _, _]) rfl) rfl (fun σ hst => ?_)
 refine nT (aB ?_)
 exact gW rfl rfl (hst.get 0 rfl) (m := 4) (by kernel_rfl) rfl ⟨K1, _, _, _, _, rfl, hle, hg1, hst.pop.pop⟩
theorem Bw {P : Program} {ev : Operand → Option AV} {t e n h bb : Nat} {x hi : Operand} {k : IntKind} (ht : P.underlying t = some (.array n e)) (hj : (P.info? e).map (·.size) = some 1) (hx : ev x = some (.ptr bb 0)) (hh : ev hi = some (.int k (.ofNat h))) (hl : h ≤ n) : cj P ev (.slice t x none (some hi) none) = some (.slice bb 0 h (.known n)) := by
 obtain ⟨j, hj', hsz⟩ := Option.map_eq_some_iff.1 hj
 have hb : bY ev n n none (some hi) = some (0, h) := lS hh hl
 simp only [cj, ew, ht, hx, cutAt, hb, cut, hj']
 cases Nat.beq n 0 <;> simp
theorem si {P : Program} {ev : Operand → Option AV} {t e n bb : Nat} {x : Operand} (ht : P.underlying t = some (.array n e)) (hj : (P.info? e).map (·.size) = some 1) (hx : ev x = some (.ptr bb 0)) : cj P ev (.slice t x none none none) = some (.slice bb 0 n (.known n)) := by
 obtain ⟨j, hj', hsz⟩ := Option.map_eq_some_iff.1 hj
 have hb : bY ev n n none none = some (0, n) := rfl
 simp only [cj, ew, ht, hx, cutAt, hb, cut, hj']
 cases Nat.beq n 0 <;> simp
theorem CC {G : Cx} (hG : Plain G) {K : KP} {r : XM} (hck : bJ r.g = 0) (hml : r.mem.length = r.g.init.length) {a b c d : AV} (hg : eX K r.g a b c d) {x0 x1 x2 x3 x4 x5 : Int} (hm : nO r.mem x0 x1 x2 x3 x4 x5) {σ : av} {L : Own} (hst : St σ K L) :
  a7 Tryz.prog G 55 [.agg [.int .i64 x0, .int .i64 x1, .int .i64 x2, .int .i64 x3, .int .i64 x4, .int .i64 x5, a, b, c, d]] σ fun v σ' => ∃ K1 mv a' b' c' d', v = .agg [mv, a', b', c', d'] ∧ KP.le K K1 ∧ bC K1 1 dE r.mem mv ∧ eX K1 r.g a' b' c' d' ∧ St σ' K1 L := by
 have h6 := hm.le
 refine a8 hG Tryz.func55 rfl (t := PT.leaf.put (some (.agg [.int .i64 x0, .int .i64 x1, .int .i64 x2, .int .i64 x3, .int .i64 x4, .int .i64 x5, a, b, c, d])) 0) (by rfl) (aj (ah rfl (bp hst rfl (cU rfl rfl) (fun _ => rfl) (fun σ b1 hst => ?_))))
 obtain ⟨K0, hle0, hmem, hst⟩ := hst.ft (M := [_])
 have hb := hmem _ (.head _); clear hmem; dsimp only at hb; replace hg := hg.mono hle0
 refine bp hst rfl (Ix (cs := [.aq, .aq, .aq, .aq, .aq])) (fun _ => rfl) (fun σ b2 hst => ?_)
 refine nT (aj (aR (l := [(0, []), (1, []), (2, []), (3, []), (4, []), (5, []), (7, []), (8, []), (6, [8]), (9, []), (10, []), (11, [])]) (by kernel_rfl) (by kernel_rfl) (an rfl rfl (Iz 0 rfl) rfl (an rfl rfl (Iz 6 rfl) rfl (an rfl rfl (Iz 0 rfl) rfl (an rfl rfl (Ia rfl (hst.dR hb) rfl) rfl (an rfl rfl (H9 hg.init rfl rfl rfl (e := 2) rfl) rfl ?_)))))))
 refine an rfl rfl (aV (v := .slice b1 0 r.mem.length (.known 6)) rfl (Bw (e := 2) (n := 6) (by kernel_rfl) (by kernel_rfl) rfl (show _ = some (AV.int .i64 (.ofNat r.mem.length)) from by rw [hml]; rfl) h6)) rfl ?_
 refine an rfl rfl (Iz 6 rfl) rfl (an rfl rfl (IC rfl (hst.dR hb) (n := 4) (vs := [_, _, _, _]) rfl) rfl (gR rfl rfl (It rfl rfl rfl) (fun _ => rfl) (qk hG (DW hm hb) (by omega) hst) ?_))
 rintro mv σ ⟨MM, hMM, hst⟩
 obtain ⟨K2, hle2, hmem, hst⟩ := hst.ft; have hmv := hMM.kx (K := K2) fun y hy => hmem _ hy; clear hmem; replace hb := hle2 _ _ hb; replace hg := hg.mono hle2
 refine ⟨(bP (cM rfl rfl rfl rfl rfl (IC rfl (hst.dR hb) (n := 4) (vs := [_, _, _, _]) rfl) (mT (dg hg.init.ld (dg hg.threads.ld (dg hg.from_.ld (dg hg.order.ld mQ)))))) aY), ?_⟩
 refine gR rfl rfl (It rfl rfl rfl) (fun _ => rfl) (GK hG hck hg hst) ?_
 rintro _ σ ⟨K1, a2, b2_, c2, d2, rfl, hle1, hg1, hst⟩
 replace hb := hle1 _ _ hb; replace hg := hg.mono hle1; replace hmv := hmv.mono hle1 fun _ _ h => h
 refine ⟨aY, ?_⟩
 refine an rfl rfl (br (places := [(0, 1), (1, 4)]) (zero := [.aq, .aq, .aq, .aq, .aq]) (cs := [_, _, _, _, _]) (by kernel_rfl) (by kernel_rfl) (by kernel_rfl) (bL rfl rfl hmv.leaf.1 rfl (bL rfl rfl rfl rfl cX)) (by kernel_rfl)) rfl (lK hst rfl rfl (Io rfl rfl rfl (hst.get 0 rfl) (m := 5) rfl (ae hmv.leaf.2 (ae hg1.init.leaf.2 (ae hg1.threads.leaf.2 (ae hg1.from_.leaf.2 (ae hg1.order.leaf.2 az))))) (cells' := [_, _, _, _, _]) rfl) rfl (fun σ hst => ?_))
 refine ⟨aY, ?_⟩
 refine ba (ad (aB ?_))
 exact gW rfl rfl (hst.get 0 rfl) (m := 5) (by kernel_rfl) rfl ⟨K1, _, _, _, _, _, rfl, KP.le_trans hle0 (KP.le_trans hle2 hle1), hmv, hg1, hst.pop⟩
theorem Eh {G : Cx} (hG : Plain G) {K : KP} (hgl : kP G K) {k : Nat} {init : List Int} {vi : AV} (hi : bC K 1 dE init vi) {l : List XC} {lv : AV} (hl : bC K 2 (jM K k) l lv) {σ : av} {L : Own} (hst : St σ K L) :
  a7 Tryz.prog G 63 [vi, lv] σ fun v σ' => (bk (wC k init l) 0 = false ∧ v = .tuple [.agg vm, .int .i64 (wC k init l)] ∧ St σ' K L) ∨
   (EM k init l ∧ bk (wC k init l) 0 = true ∧ ∃ K1 x0 x1 x2 x3 x4 x5 a b c d, v = .tuple [.agg [.int .i64 x0, .int .i64 x1, .int .i64 x2, .int .i64 x3, .int .i64 x4, .int .i64 x5, a, b, c, d], .int .i64 0] ∧ KP.le K K1 ∧ eX K1 (F7 init l.length) a b c d ∧ nO init x0 x1 x2 x3 x4 x5 ∧ St σ' K1 L) := by
 refine a8 hG Tryz.func63 rfl (t := (PT.leaf.put (some (vi)) 0).put (some (lv)) 1) (by rfl) (aj (ah rfl (bp hst rfl (Ix (cs := [.int .i64 0, .int .i64 0, .int .i64 0, .int .i64 0, .int .i64 0, .int .i64 0, .aq, .aq, .aq, .aq])) (fun _ => rfl) (fun σ b1 hst => ?_))))
 refine vQ 1 rfl (nT (aj (aj (ah rfl (vQ 2 rfl (a9 rfl (It rfl rfl rfl) (fun _ => rfl) (Bm hG hgl hi hl hst) (fun σ hst => ?_)))))))
 refine vQ 1 rfl (nS rfl (vQ 2 rfl (nT (aE rfl (fun h14 => ?_) (fun h14 => ?_)))))
 ·refine aj (ah rfl (aa rfl (Is (places := [(0, 6), (6, 4)]) (zero := [.int .i64 0, .int .i64 0, .int .i64 0, .int .i64 0, .int .i64 0, .int .i64 0, .aq, .aq, .aq, .aq]) (cs := [_, _, _, _, _, _, _, _, _, _]) rfl) rfl (vQ 1 rfl (bA hst rfl (Io rfl rfl rfl (hst.get 0 rfl) (m := 10) rfl rfl (cells' := [_, _, _, _, _, _, _, _, _, _]) rfl) rfl (fun σ hst => ?_)))))
  refine vQ 1 rfl (nT (aB (au (?_))))
  exact bm rfl rfl (hst.get 0 rfl) (m := 10) (by kernel_rfl) rfl rfl (.inl ⟨bM h14, rfl, hst.pop⟩)
 ·refine aF (ad (aj (ah rfl (vQ 2 rfl (aa rfl (H9 hl rfl rfl rfl (e := 33) rfl) rfl ?_)))))
  have hex := Gm (k := k) (init := init) (l := l) (eqv (a6 h14))
  have hel := hex.len; have hei := hex.init
  refine cJ rfl (It rfl rfl rfl) (fun _ => rfl) (GS hG hi hei (t := l.length) hel hst) ?_
  rintro _ σ ⟨K1, a, b, c, d, rfl, hle, hg, hst⟩
  replace hi := hi.mono hle fun _ _ h => h
  refine vQ 3 rfl (bp hst rfl (Ix (cs := [.aq, .aq, .aq, .aq])) (fun _ => rfl) (fun σ b2 hst => ?_))
  refine bA hst rfl (Io rfl rfl rfl (hst.get 0 rfl) (m := 4) rfl (ae hg.init.leaf.2 (ae hg.threads.leaf.2 (ae hg.from_.leaf.2 (ae hg.order.leaf.2 az)))) (cells' := [_, _, _, _]) rfl) rfl (fun σ hst => ?_)
  refine vQ 1 rfl (nT (aj (aj (ah rfl (vQ 2 rfl (nT (aE rfl (fun h25 => ?_) (fun h25 => ?_))))))))
  ·exact absurd h25 (by decide)
  ·refine aF (ad (aj (ah rfl (aa rfl (IC rfl (hst.get 0 rfl) (n := 4) (vs := [_, _, _, _]) rfl) rfl (aa rfl (Is (places := [(0, 6), (6, 4)]) (zero := [.int .i64 0, .int .i64 0, .int .i64 0, .int .i64 0, .int .i64 0, .int .i64 0, .aq, .aq, .aq, .aq]) (cs := [_, _, _, _, _, _, _, _, _, _]) rfl) rfl (bp hst rfl (Ix (cs := [.int .i64 0, .int .i64 0, .int .i64 0, .int .i64 0, .int .i64 0, .int .i64 0, .aq, .aq, .aq, .aq])) (fun _ => rfl) (fun σ b3 hst => ?_)))))))
   refine bA hst rfl (Io rfl rfl rfl (hst.get 0 rfl) (m := 10) rfl (ae rfl (ae rfl (ae rfl (ae rfl (ae rfl (ae rfl (ae hg.init.leaf.2 (ae hg.threads.leaf.2 (ae hg.from_.leaf.2 (ae hg.order.leaf.2 az)))))))))) (cells' := [_, _, _, _, _, _, _, _, _, _]) rfl) rfl (fun σ hst => ?_)
   refine nS rfl (aa rfl (Iz 0 rfl) rfl ?_)
   refine aa rfl (aV (v := .slice b3 0 6 (.known 6)) rfl (si (e := 2) (n := 6) (by kernel_rfl) (by kernel_rfl) rfl)) rfl ?_
   refine vQ 1 rfl ?_
   obtain ⟨σ, v33, x0, x1, x2, x3, x4, x5, hcp, hst, hm⟩ := xS (P := Tryz.prog) (ts := #[22, 22]) (t := 22) (ty := 2) hst hi hei rfl (by kernel_rfl) (by kernel_rfl)
   refine aa rfl (xq rfl rfl rfl rfl hcp) rfl (nS rfl (aa rfl (IC rfl (hst.get 0 rfl) (n := 10) (vs := [_, _, _, _, _, _, _, _, _, _]) rfl) rfl (sx hst rfl (Io rfl rfl rfl (hst.get 2 rfl) (m := 10) rfl (ae rfl (ae rfl (ae rfl (ae rfl (ae rfl (ae rfl (ae hg.init.leaf.2 (ae hg.threads.leaf.2 (ae hg.from_.leaf.2 (ae hg.order.leaf.2 az)))))))))) (cells' := [_, _, _, _, _, _, _, _, _, _]) rfl) rfl (fun σ hst => ?_))))
   refine vQ 1 rfl (nT (aB ?_))
   exact bm rfl rfl (hst.get 2 rfl) (m := 10) (by kernel_rfl) rfl rfl (.inr ⟨hex, a6 h14, K1, _, _, _, _, _, _, _, _, _, _, rfl, hle, hg, hm, hst.pop.pop.pop⟩)
theorem uG {P : Program} {fn : Func} {R : AV → av → Prop} {t : PT AV} {σ : av} {j k q ty bb m e : Nat} {ro : Bool} {cells : List AV} {v w : AV} (hr : fn.results.toList = [.cell j ty, .tmp k, .tmp q]) (h1 : t.get j = some (.ptr bb 0)) (hm : σ.m.get bb = some (.row cells e ro)) (ha : da P ty = some (some m)) (hn : cells.length = m) (h2 : t.get k = some v) (h3 : t.get q = some w) (hR : R (.tuple [.agg cells, v, w]) σ) : wZ P fn R .ret t σ := by
 refine ⟨.inr rfl, _, ?_, hR⟩
 unfold dq
 rw [hr]
 have e1 : ed P t σ (.cell j ty) = some (AV.agg cells) := by
  show (match t.get (posOf j) with
   | some (.ptr b off) => match σ.m.get b with
    | some (.row cells _ _) => match da P ty with
     | some (some n) => bif Nat.ble (off + n) (b0 cells) then some (AV.agg (takeN (cT cells off) n)) else none
     | some none => nth cells off
     | none => none
    | _ => none
   | _ => none) = _
  rw [show t.get (posOf j) = some (.ptr bb 0) from h1]
  dsimp only
  rw [hm]
  dsimp only
  rw [ha]
  dsimp only
  rw [bh, hn, Nat.zero_add, show Nat.ble m m = true by rw [Nat.ble_eq]; exact Nat.le_refl _, ct, cO, List.drop_zero, ← hn, List.take_length]
  rfl
 have e2 : ed P t σ (.tmp k) = some v := h2
 have e3 : ed P t σ (.tmp q) = some w := h3
 have : bK (ed P t σ) [.cell j ty, .tmp k, .tmp q] = some [AV.agg cells, v, w] := by
  unfold bK
  simp only [e1, e2, e3]
 rw [this]
theorem GF {G : Cx} (hG : Plain G) (hfk : G.fk 70 = true) (hov : G.ov 106 = true) {K : KP} (hgl : kP G K) {k : Nat} {l : List XC} {lv : AV} (hl : bC K 2 (jM K k) l lv) {r : XM} (hinv : jr k l r) {a b c d : AV} (hg : eX K r.g a b c d) {x0 x1 x2 x3 x4 x5 : Int} (hm : nO r.mem x0 x1 x2 x3 x4 x5) {ps : List Int} {pv : AV} (hp : bC K 1 dE ps pv) (hpl : ps.length ≤ 100) {σ : av} {L : Own} (hst : St σ K L) :
  a7 Tryz.prog G 64 [.agg [.int .i64 x0, .int .i64 x1, .int .i64 x2, .int .i64 x3, .int .i64 x4, .int .i64 x5, a, b, c, d], lv, pv] σ fun v σ' => ∃ K1 y0 y1 y2 y3 y4 y5 a' b' c' d' u M, v = .tuple [.agg [.int .i64 y0, .int .i64 y1, .int .i64 y2, .int .i64 y3, .int .i64 y4, .int .i64 y5, a', b', c', d'], u] ∧ KP.le K K1 ∧ eX K1 (cR k l (r, []) ps).1.g a' b' c' d' ∧ nO (cR k l (r, []) ps).1.mem y0 y1 y2 y3 y4 y5 ∧ eG 1 3 dE (cR k l (r, []) ps).2 u M ∧ St σ' K1 (M ++ L) := by
 have hl0 := hl; have hgl0 := hgl; have hp0 := hp
 refine a8 hG Tryz.func64 rfl (t := ((PT.leaf.put (some (.agg [.int .i64 x0, .int .i64 x1, .int .i64 x2, .int .i64 x3, .int .i64 x4, .int .i64 x5, a, b, c, d])) 0).put (some (lv)) 1).put (some (pv)) 2) (by rfl) (aj (ah rfl (bp hst rfl (cU rfl rfl) (fun _ => rfl) (fun σ b1 hst => ?_))))
 refine bp hst rfl (Ix (cs := [.int .i64 0, .int .i64 0, .int .i64 0, .int .i64 0, .int .i64 0, .int .i64 0, .aq, .aq, .aq, .aq])) (fun _ => rfl) (fun σ b2 hst => ?_)
 refine vQ 1 rfl (nS rfl (vQ 1 rfl ?_))
 replace hst : St σ K ([] ++ (b2, .row vm 99 false) :: (b1, .row (c6 x0 x1 x2 x3 x4 x5 a b c d) 99 false) :: L) := hst
 refine nT (aj (aj (ah rfl (vQ 1 rfl (aa rfl (H9 hp rfl rfl rfl (e := 3) rfl) rfl (vQ 1 rfl (nT (aP (bu [8, 10, 11, 12, 15, 16, 17, 18, 19, 20, 21, 22, 23, 24, 25, 26, 27, 28, 29, 30, 31, 32, 33, 34, 35, 36, 37, 38, 39, 40, 41] (fun j t σ => ∃ (i : Nat) (K2 : KP) (x0 x1 x2 x3 x4 x5 : Int) (a b c d u : AV) (M : Own), j + i = ps.length ∧ KP.le K K2 ∧ jr k l (cR k l (r, []) (ps.take i)).1 ∧ eX K2 (cR k l (r, []) (ps.take i)).1.g a b c d ∧ nO (cR k l (r, []) (ps.take i)).1.mem x0 x1 x2 x3 x4 x5 ∧ (cR k l (r, []) (ps.take i)).2.length ≤ i ∧ eG 1 3 dE (cR k l (r, []) (ps.take i)).2 u M ∧ t.get 8 = some (u) ∧ t.get 15 = some (.int .i64 (.ofNat i)) ∧ St σ K2 (M ++ (b2, .row vm 99 false) :: (b1, .row (c6 x0 x1 x2 x3 x4 x5 a b c d) 99 false) :: L)) (ps.length) ⟨0, K, x0, x1, x2, x3, x4, x5, a, b, c, d, .aq, [], rfl, KP.le_refl K, hinv, hg, hm, Nat.le_refl _, .inl ⟨rfl, rfl, rfl⟩, rfl, rfl, hst⟩ ?_)))))))))
 clear hst; intro j3 t σ ar hI; obtain ⟨i, K2, x0, x1, x2, x3, x4, x5, a, b, c, d, u, M, hj3, hleK, hin, hg, hm, hil, hO, hv8, hv15, hst⟩ := hI
 obtain ⟨o8, o10, o11, o12, o15, o16, o17, o18, o19, o20, o21, o22, o23, o24, o25, o26, ar⟩ := ar.HE rfl rfl rfl rfl
 replace ar := ar.dC rfl rfl; obtain ⟨o27, o28, o29, o30, o31, o32, o33, o34, ar⟩ := ar
 replace ar := ar.rp rfl; obtain ⟨o35, o36, o37, o38, ar⟩ := ar
 replace ar := ar.fD rfl; obtain ⟨o39, ar⟩ := ar
 replace ar := ar.fD rfl; obtain ⟨o40, ar⟩ := ar
 replace ar := ar.fD rfl; obtain ⟨o41, ar⟩ := ar
 obtain rfl := ar.nil; clear ar
 replace hv8 : o8 = some _ := hv8; subst hv8
 replace hv15 : o15 = some _ := hv15; subst hv15
 refine aj (ah rfl ?_)
 have hl := hl0.mono hleK fun _ _ h => h.mono hleK; have hgl := hgl0.mono hleK; have hp := hp0.mono hleK fun _ _ h => h
 refine aL rfl (aA rfl rfl rfl) (fun _ => rfl) (fun h16 => ?_) (fun h16 => ?_)
 ·refine nT (aj (aC rfl (aF (ad (aj (aP (aj (ah rfl ?_))))))))
  obtain ⟨x17, hx17, hi17⟩ := dv h16
  refine Ib (e := 3) (m := 1) hp hx17 rfl rfl rfl rfl (fun _ => rfl) (fun p17 vs17 hp17 hl17 hr17 => ?_)
  obtain rfl := hr17
  refine aa rfl (Ih hst hp17 rfl rfl) rfl (vQ 1 rfl (nT (aj (aj (ah rfl (vQ 2 rfl (aL rfl (al rfl) (fun _ => rfl) (fun h21 => ?_) (fun h21 => ?_))))))))
  ·refine vQ 5 rfl (nT (aC rfl (bz (aZ (aU (ad (ah rfl (vQ 2 rfl (af ?_)))))))))
   have hlp := bW h16
   have htry : iE k l (cR k l (r, []) (ps.take i)).1 x17 = none := by unfold iE; rw [h21]; rfl
   have hP : cR k l (r, []) (ps.take (i + 1)) = cR k l (r, []) (ps.take i) := by rw [g9 hx17]; unfold jH; rw [htry]
   refine aQ ⟨j3 - 1, by omega, (by (iterate 45 refine bq.put rfl ?_); exact bq.refl _ _), i + 1, K2, x0, x1, x2, x3, x4, x5, a, b, c, d, u, M, by omega, hleK, by rw [hP]; exact hin, by rw [hP]; exact hg, by rw [hP]; exact hm, by rw [hP]; omega, by rw [hP]; exact hO, rfl, congrArg (fun z => some (AV.int .i64 z)) (bg (by omega)), hst⟩
  ·refine vQ 2 rfl (aa rfl (H9 hl rfl rfl rfl (e := 33) rfl) rfl (vQ 2 rfl (nT (aE rfl (fun h26 => ?_) (fun h26 => ?_)))))
   ·refine bz (aZ (aU (ad (ah rfl (vQ 2 rfl (af ?_))))))
    have hlp := bW h16
    have htry : iE k l (cR k l (r, []) (ps.take i)).1 x17 = none := by unfold iE; rw [h21, h26]; rfl
    have hP : cR k l (r, []) (ps.take (i + 1)) = cR k l (r, []) (ps.take i) := by rw [g9 hx17]; unfold jH; rw [htry]
    refine aQ ⟨j3 - 1, by omega, (by (iterate 45 refine bq.put rfl ?_); exact bq.refl _ _), i + 1, K2, x0, x1, x2, x3, x4, x5, a, b, c, d, u, M, by omega, hleK, by rw [hP]; exact hin, by rw [hP]; exact hg, by rw [hP]; exact hm, by rw [hP]; omega, by rw [hP]; exact hO, rfl, congrArg (fun z => some (AV.int .i64 z)) (bg (by omega)), hst⟩
   ·refine aF (ad (aj (ah rfl (aa rfl (IC rfl (hst.bl.pop.get 0 rfl) (n := 10) (vs := [_, _, _, _, _, _, _, _, _, _]) rfl) rfl (vQ 2 rfl ?_)))))
    obtain ⟨tp, rfl⟩ := mI h21
    have htl : tp < l.length := by have := bn h26; omega
    refine cJ rfl (It rfl rfl rfl) (fun _ => rfl) (AX hG hfk hov hgl hl hin hg hm htl hst) ?_
    rintro _ σ (⟨e, rfl, he, hne, hst⟩ | ⟨K3, r2, z0, z1, z2, z3, z4, z5, a2, b2_, c2, d2, hle3, hsm, rfl, hg2, hm2, hst⟩)
    ·refine vQ 3 rfl (bp hst rfl (Ix (cs := [.int .i64 0, .int .i64 0, .int .i64 0, .int .i64 0, .int .i64 0, .int .i64 0, .aq, .aq, .aq, .aq])) (fun _ => rfl) (fun σ b3 hst => ?_))
     refine bA hst rfl (Io rfl rfl rfl (hst.get 0 rfl) (m := 10) rfl rfl (cells' := [_, _, _, _, _, _, _, _, _, _]) rfl) rfl (fun σ hst => ?_)
     refine vQ 1 rfl (nS rfl (vQ 1 rfl (aL rfl (aA rfl rfl rfl) (fun _ => rfl) (fun h35 => ?_) (fun h35 => ?_))))
     ·exact absurd h35 (by rw [hne]; decide)
     ·refine nT (aI rfl (aF (aK (ad (ah rfl (vQ 2 rfl (af ?_)))))))
      have hst := hst.pop
      have hlp := bW h16
      have htry : iE k l (cR k l (r, []) (ps.take i)).1 (Int.ofNat (tp + 1)) = none := by unfold iE; rw [h21, h26]; simp only [cond_false, show (Int.ofNat (tp + 1)).toNat - 1 = tp from rfl]; rw [← he, hne]; rfl
      have hP : cR k l (r, []) (ps.take (i + 1)) = cR k l (r, []) (ps.take i) := by rw [g9 hx17]; unfold jH; rw [htry]
      refine aQ ⟨j3 - 1, by omega, (by (iterate 56 refine bq.put rfl ?_); exact bq.refl _ _), i + 1, K2, x0, x1, x2, x3, x4, x5, a, b, c, d, u, M, by omega, hleK, by rw [hP]; exact hin, by rw [hP]; exact hg, by rw [hP]; exact hm, by rw [hP]; omega, by rw [hP]; exact hO, rfl, congrArg (fun z => some (AV.int .i64 z)) (bg (by omega)), hst⟩
    ·refine vQ 3 rfl (bp hst rfl (Ix (cs := [.int .i64 0, .int .i64 0, .int .i64 0, .int .i64 0, .int .i64 0, .int .i64 0, .aq, .aq, .aq, .aq])) (fun _ => rfl) (fun σ b3 hst => ?_))
     refine bA hst rfl (Io rfl rfl rfl (hst.get 0 rfl) (m := 10) rfl (ae rfl (ae rfl (ae rfl (ae rfl (ae rfl (ae rfl (ae hg2.init.leaf.2 (ae hg2.threads.leaf.2 (ae hg2.from_.leaf.2 (ae hg2.order.leaf.2 az)))))))))) (cells' := [_, _, _, _, _, _, _, _, _, _]) rfl) rfl (fun σ hst => ?_)
     refine vQ 1 rfl (nS rfl (vQ 1 rfl (aL rfl (aA rfl rfl rfl) (fun _ => rfl) (fun h35 => ?_) (fun h35 => ?_))))
     ·refine nT (aC rfl (aj (ah rfl (aa rfl (IC rfl (hst.get 0 rfl) (n := 10) (vs := [_, _, _, _, _, _, _, _, _, _]) rfl) rfl ?_))))
      refine dM hst (.there (.eS (.there .here))) rfl (Io rfl rfl rfl (hst.pop.bl.pop.get 0 rfl) (m := 10) rfl (ae rfl (ae rfl (ae rfl (ae rfl (ae rfl (ae rfl (ae hg2.init.leaf.2 (ae hg2.threads.leaf.2 (ae hg2.from_.leaf.2 (ae hg2.order.leaf.2 az)))))))))) (cells' := [_, _, _, _, _, _, _, _, _, _]) rfl) rfl (fun σ hst => ?_)
      refine nT (ah rfl (vQ 2 rfl (lD hst rfl (dy (e := 3) (m := 1) (z := [.int .i64 0]) (cs := [_]) (by kernel_rfl) (by kernel_rfl) (by kernel_rfl) (by kernel_rfl) (bL rfl rfl rfl rfl cX)) (fun _ => rfl) (fun σ b4 hst => ?_))))
      replace hst := (hst.perm (List.Perm.swap ..)).pop
      obtain ⟨σ, u2, M2, happ, hO2, hst⟩ := eF (P := Tryz.prog) (ts := #[34, 34]) (t := 34) (e := 3) (l2 := [Int.ofNat (tp + 1)]) hO hst (ee (xs := [Int.ofNat (tp + 1)]) (.inr ⟨rfl, rfl⟩) (by simp)) dE.leaf (by simp) (by simp) (by omega) rfl (by kernel_rfl) (by kernel_rfl) (by kernel_rfl)
      refine aa rfl (dK rfl rfl rfl rfl (by kernel_rfl) happ) rfl (vQ 1 rfl (af (aK (ad (ah rfl (vQ 2 rfl (af ?_)))))))
      have hlp := bW h16
      have htry : iE k l (cR k l (r, []) (ps.take i)).1 (Int.ofNat (tp + 1)) = some r2 := by unfold iE; rw [h21, h26]; simp only [cond_false, show (Int.ofNat (tp + 1)).toNat - 1 = tp from rfl]; rw [hsm]; rfl
      have hP : cR k l (r, []) (ps.take (i + 1)) = (r2, (cR k l (r, []) (ps.take i)).2 ++ [Int.ofNat (tp + 1)]) := by rw [g9 hx17]; unfold jH; rw [htry]
      refine aQ ⟨j3 - 1, by omega, (by (iterate 62 refine bq.put rfl ?_); exact bq.refl _ _), i + 1, K3, z0, z1, z2, z3, z4, z5, a2, b2_, c2, d2, u2, M2, by omega, KP.le_trans hleK hle3, by rw [hP]; exact (hin.step hsm).1, by rw [hP]; exact hg2, by rw [hP]; exact hm2, by rw [hP, List.length_append]; show _ + 1 ≤ _; omega, by rw [hP]; exact hO2, rfl, congrArg (fun z => some (AV.int .i64 z)) (bg (by omega)), hst⟩
     ·exact absurd h35 (by decide)
 ·refine nT (aj (aI rfl (bz (aZ (bc (aU (ad (aj (ah rfl (aa rfl (IC rfl (hst.bl.pop.get 0 rfl) (n := 10) (vs := [_, _, _, _, _, _, _, _, _, _]) rfl) rfl (vQ 1 rfl ?_)))))))))))
  refine dM hst (.eS .here) rfl (Io rfl rfl rfl (hst.bl.get 0 rfl) (m := 10) rfl (ae rfl (ae rfl (ae rfl (ae rfl (ae rfl (ae rfl (ae hg.init.leaf.2 (ae hg.threads.leaf.2 (ae hg.from_.leaf.2 (ae hg.order.leaf.2 az)))))))))) (cells' := [_, _, _, _, _, _, _, _, _, _]) rfl) rfl (fun σ hst => ?_)
  refine vQ 1 rfl (nT (aB ?_))
  have hP : cR k l (r, []) (ps.take i) = cR k l (r, []) ps := uH (bn h16)
  rw [hP] at hO hg hm
  exact bm rfl rfl (hst.bl.get 0 rfl) (m := 10) (by kernel_rfl) rfl rfl ⟨K2, _, _, _, _, _, _, _, _, _, _, _, _, rfl, hleK, hg, hm, hO, hst.sub (ig (.cons _ (.cons _ (.refl _))))⟩
noncomputable def js (init : List Int) (l : List XC) : XM := ⟨init, F7 init l.length⟩
theorem sR {k : Nat} {init : List Int} {l : List XC} (h : EM k init l) : jr k l (js init l) := jr.start h.len h.init h.flat
theorem zF {G : Cx} (hG : Plain G) (hfk : G.fk 70 = true) (hov : G.ov 106 = true) {K : KP} (hgl : kP G K) {k : Nat} {init : List Int} {vi : AV} (hi : bC K 1 dE init vi) {l : List XC} {lv : AV} (hl : bC K 2 (jM K k) l lv) {ps : List Int} {pv : AV} (hp : bC K 1 dE ps pv) (hpl : ps.length ≤ 100) {σ : av} {L : Own} (hst : St σ K L) :
  a7 Tryz.prog G 29 [vi, lv, pv] σ fun v σ' => ∃ K1 m a b c d n, v = .tuple [.agg [m, a, b, c, d], .int .i64 n, .int .i64 (wC k init l)] ∧ KP.le K K1 ∧ (bk (wC k init l) 0 = true → EM k init l ∧ n = .ofNat (cR k l (js init l, []) ps).2.length ∧ bC K1 1 dE (cR k l (js init l, []) ps).1.mem m ∧ eX K1 (cR k l (js init l, []) ps).1.g a b c d) ∧ (bk (wC k init l) 0 = false → m = .aq ∧ a = .aq ∧ b = .aq ∧ c = .aq ∧ d = .aq) ∧ St σ' K1 L := by
 refine a8 hG Tryz.func29 rfl (t := ((PT.leaf.put (some (vi)) 0).put (some (lv)) 1).put (some (pv)) 2) (by rfl) (aj (ah rfl (bp hst rfl (Ix (cs := [.aq, .aq, .aq, .aq, .aq])) (fun _ => rfl) (fun σ b1 hst => ?_))))
 refine vQ 2 rfl (nS rfl (vQ 2 rfl (cJ rfl (It rfl rfl rfl) (fun _ => rfl) (Eh hG hgl hi hl hst) ?_)))
 rintro _ σ (⟨hne, rfl, hst⟩ | ⟨hex, heq, K1, x0, x1, x2, x3, x4, x5, a, b, c, d, rfl, hle, hg, hm, hst⟩)
 ·refine vQ 3 rfl (bp hst rfl (Ix (cs := [.int .i64 0, .int .i64 0, .int .i64 0, .int .i64 0, .int .i64 0, .int .i64 0, .aq, .aq, .aq, .aq])) (fun _ => rfl) (fun σ b2 hst => ?_))
  refine bA hst rfl (Io rfl rfl rfl (hst.get 0 rfl) (m := 10) rfl rfl (cells' := [_, _, _, _, _, _, _, _, _, _]) rfl) rfl (fun σ hst => ?_)
  refine vQ 1 rfl (nT (aj (aj (ah rfl (vQ 2 rfl (nT (aE rfl (fun h18 => ?_) (fun h18 => ?_))))))))
  ·refine aj (ah rfl (aa rfl (Is (places := [(0, 1), (1, 4)]) (zero := [.aq, .aq, .aq, .aq, .aq]) (cs := [_, _, _, _, _]) rfl) rfl (vQ 1 rfl (dY hst rfl (Io rfl rfl rfl (hst.get 1 rfl) (m := 5) rfl rfl (cells' := [_, _, _, _, _]) rfl) rfl (fun σ hst => ?_)))))
   refine vQ 2 rfl (nT (aB (au (?_))))
   exact uG rfl rfl (hst.get 1 rfl) (m := 5) (by kernel_rfl) rfl rfl rfl ⟨K, _, _, _, _, _, _, rfl, KP.le_refl K, (fun h => by rw [hne] at h; cases h), (fun _ => ⟨rfl, rfl, rfl, rfl, rfl⟩), hst.pop.pop⟩
  ·exact absurd (a6 h18) (by rw [hne]; decide)
 ·refine vQ 3 rfl (bp hst rfl (Ix (cs := [.int .i64 0, .int .i64 0, .int .i64 0, .int .i64 0, .int .i64 0, .int .i64 0, .aq, .aq, .aq, .aq])) (fun _ => rfl) (fun σ b2 hst => ?_))
  refine bA hst rfl (Io rfl rfl rfl (hst.get 0 rfl) (m := 10) rfl (ae rfl (ae rfl (ae rfl (ae rfl (ae rfl (ae rfl (ae hg.init.leaf.2 (ae hg.threads.leaf.2 (ae hg.from_.leaf.2 (ae hg.order.leaf.2 az)))))))))) (cells' := [_, _, _, _, _, _, _, _, _, _]) rfl) rfl (fun σ hst => ?_)
  refine vQ 1 rfl (nT (aj (aj (ah rfl (vQ 2 rfl (nT (aE rfl (fun h18 => ?_) (fun h18 => ?_))))))))
  ·exact absurd h18 (by decide)
  ·refine aF (ad (aj (ah rfl (aa rfl (IC rfl (hst.get 0 rfl) (n := 10) (vs := [_, _, _, _, _, _, _, _, _, _]) rfl) rfl (vQ 2 rfl (cJ rfl (It rfl rfl rfl) (fun _ => rfl) (GF hG hfk hov (hgl.mono hle) (hl.mono hle fun _ _ h => h.mono hle) (sR hex) hg hm (hp.mono hle fun _ _ h => h) hpl hst) ?_))))))
   rintro _ σ ⟨K2, y0, y1, y2, y3, y4, y5, a2, b2_, c2, d2, u25, M25, rfl, hle2, hg2, hm2, hO, hst⟩
   obtain ⟨K3, hle3, hmem, hst⟩ := hst.ft; have hS := hO.kx (K := K3) fun y hy => hmem _ hy; clear hmem; replace hg2 := hg2.mono hle3
   refine vQ 3 rfl (bA hst rfl (Io rfl rfl rfl (hst.get 0 rfl) (m := 10) rfl (ae rfl (ae rfl (ae rfl (ae rfl (ae rfl (ae rfl (ae hg2.init.leaf.2 (ae hg2.threads.leaf.2 (ae hg2.from_.leaf.2 (ae hg2.order.leaf.2 az)))))))))) (cells' := [_, _, _, _, _, _, _, _, _, _]) rfl) rfl (fun σ hst => ?_))
   refine vQ 1 rfl (nS rfl (aa rfl (IC rfl (hst.get 0 rfl) (n := 10) (vs := [_, _, _, _, _, _, _, _, _, _]) rfl) rfl ?_))
   have hpi := (sR hex).Es (ps := ps) (s := (js init l, []))
   refine cJ rfl (It rfl rfl rfl) (fun _ => rfl) (CC hG hpi.1.GY hpi.1.mem hg2 hm2 hst) ?_
   rintro _ σ ⟨K4, mv, a3, b3_, c3, d3, rfl, hle4, hmv, hg3, hst⟩
   replace hS := hS.mono hle4 fun _ _ h => h
   refine vQ 1 rfl (aa rfl (H9 hS rfl rfl rfl (e := 3) rfl) rfl (dY hst rfl (Io rfl rfl rfl (hst.get 1 rfl) (m := 5) rfl (ae hmv.leaf.2 (ae hg3.init.leaf.2 (ae hg3.threads.leaf.2 (ae hg3.from_.leaf.2 (ae hg3.order.leaf.2 az))))) (cells' := [_, _, _, _, _]) rfl) rfl (fun σ hst => ?_)))
   refine vQ 2 rfl (nT (aB ?_))
   exact uG rfl rfl (hst.get 1 rfl) (m := 5) (by kernel_rfl) rfl rfl rfl ⟨K4, _, _, _, _, _, _, by rw [eqv heq], KP.le_trans hle (KP.le_trans hle2 (KP.le_trans hle3 hle4)), (fun _ => ⟨hex, rfl, hmv, hg3⟩), (fun h => by rw [heq] at h; cases h), hst.pop.pop⟩
theorem vz {α : Type} {o : Option α} {d : α} (h : (!o.isSome) = false) : o = some (o.getD d) := by
 cases o with
 | none => cases h
 | some x => rfl
theorem xy {α : Type} {o : Option α} (h : (!o.isSome) = false) : o.isSome = true := by
 cases o with
 | none => cases h
 | some x => rfl
theorem EK {α : Type} {o : Option α} (h : (!o.isSome) = true) : o = none := by
 cases o with
 | none => rfl
 | some x => cases h
theorem Du {k : Nat} {l : List XC} {g : XG} (h : (jg k l g).isSome = true) : bJ g = 0 := by
 unfold jg at h
 cases h1 : bf (bk (bJ g) 0) with
 | true => rw [h1] at h; cases h
 | false => exact eqv (a6 h1)
theorem Eo {G : Cx} (hG : Plain G) {K : KP} (hgl : kP G K) {k : Nat} {l : List XC} {lv : AV} (hl : bC K 2 (jM K k) l lv) {m : List Int} {mv : AV} (hmv : bC K 1 dE m mv) {g : XG} {a b c d : AV} (hg : eX K g a b c d) {σ : av} {L : Own} (hst : St σ K L) :
  a7 Tryz.prog G 59 [lv, .agg [mv, a, b, c, d]] σ fun v σ' => ∃ u M, v = .tuple [u, .bool (mm k l m g).isSome] ∧ eG 1 3 dE ((mm k l m g).getD []) u M ∧ St σ' K (M ++ L) := by
 refine a8 hG Tryz.func59 rfl (t := (PT.leaf.put (some (lv)) 0).put (some (.agg [mv, a, b, c, d])) 1) (by rfl) (aj (ah rfl (bp hst rfl (cU rfl rfl) (fun _ => rfl) (fun σ b1 hst => ?_))))
 refine vQ 2 rfl (nS rfl (vQ 1 rfl (aa rfl (Iz 1 rfl) rfl (aa rfl (IC rfl (hst.get 0 rfl) (n := 4) (vs := [_, _, _, _]) rfl) rfl (cJ rfl (It rfl rfl rfl) (fun _ => rfl) (FW hG hgl hl hg hst) ?_)))))
 rintro _ σ ⟨u14, M14, rfl, hO, hst⟩
 refine vQ 5 rfl (nT (aj (aj (ah rfl (vQ 1 rfl (aa rfl (dI rfl) rfl (aL rfl (al rfl) (fun _ => rfl) (fun h19 => ?_) (fun h19 => ?_))))))))
 ·refine vQ 9 rfl (nT (aC rfl (aj (ah rfl (vQ 2 rfl (nT (aB (au (?_)))))))))
  have hR : mm k l m g = none := by unfold mm; rw [EK h19]
  exact bS rfl rfl rfl ⟨.aq, [], by rw [hR]; rfl, by rw [hR]; exact .inl ⟨rfl, rfl, rfl⟩, hst.bl.pop⟩
 ·refine aa rfl (Iz 0 rfl) rfl (aa rfl (Ia rfl (hst.bl.get 0 rfl) rfl) rfl (aa rfl (H9 hmv rfl rfl rfl (e := 2) rfl) rfl (aa rfl (Iz 1 rfl) rfl (aa rfl (Iz 0 rfl) rfl (aa rfl (Ia rfl (hst.bl.get 0 rfl) rfl) rfl (aa rfl (H9 hg.init rfl rfl rfl (e := 2) rfl) rfl (vQ 2 rfl (nT (aE rfl (fun h28 => ?_) (fun h28 => ?_))))))))))
  ·refine aj (ah rfl (vQ 2 rfl (nT (aB (au (?_))))))
   have hsg := vz (d := []) h19
   have hR : mm k l m g = none := by unfold mm; rw [hsg]; dsimp only; rw [show bf (bk (.ofNat m.length) (.ofNat g.init.length)) = true from h28]; rfl
   exact bS rfl rfl rfl ⟨.aq, [], by rw [hR]; rfl, by rw [hR]; exact .inl ⟨rfl, rfl, rfl⟩, hst.bl.pop⟩
  ·refine aF (ad (aj (aj (ah rfl ?_))))
   have hck := Du (xy h19); have hbo : ∀ r ∈ g.order, r.length ≤ 1000000 := fun r hr => by have := kY hck r hr; omega
   refine aa rfl (Iz 0 rfl) rfl (aa rfl (Ia rfl (hst.bl.get 0 rfl) rfl) rfl (aa rfl (H9 hmv rfl rfl rfl (e := 2) rfl) rfl (vQ 1 rfl (nT (aP (bu [4, 5, 8, 9, 32, 33, 34, 35, 36, 37, 38, 39, 40, 41, 42, 43] (fun j t σ => ∃ (i : Nat), j + i = m.length ∧ sI g m 0 = sI g (m.drop i) i ∧ t.get 32 = some (.int .i64 (.ofNat i)) ∧ St σ K (M14 ++ (b1, .row [mv, a, b, c, d] 44 false) :: L)) (m.length) ⟨0, rfl, rfl, rfl, hst⟩ ?_))))))
   clear hst; intro j5 t σ ar hI; obtain ⟨i, hj5, hok, hv32, hst⟩ := hI
   obtain ⟨o4, o5, o8, o9, o32, o33, o34, o35, o36, o37, o38, o39, o40, o41, o42, o43, ar⟩ := ar.HE rfl rfl rfl rfl
   obtain rfl := ar.nil; clear ar
   replace hv32 : o32 = some _ := hv32; subst hv32
   refine aj (ah rfl (aL rfl (aA rfl rfl rfl) (fun _ => rfl) (fun h33 => ?_) (fun h33 => ?_)))
   ·refine nT (aj (aC rfl (aF (ad (aj (aP (aj (ah rfl (vQ 1 rfl ?_)))))))))
    obtain ⟨x35, hx35, hi35⟩ := dv h33
    refine Ib (e := 2) (m := 1) hmv hx35 rfl rfl rfl rfl (fun _ => rfl) (fun p35 vs35 hp35 hl35 hr35 => ?_)
    obtain rfl := hr35
    refine aa rfl (Ih hst hp35 rfl rfl) rfl (vQ 2 rfl (nS rfl (vQ 1 rfl (aa rfl (Iz 1 rfl) rfl (aa rfl (IC rfl (hst.bl.get 0 rfl) (n := 4) (vs := [_, _, _, _]) rfl) rfl (vQ 1 rfl (a9 rfl (It rfl rfl rfl) (fun _ => rfl) (Gc hG hg hbo _ hst) (fun σ hst => ?_))))))))
    refine vQ 1 rfl (nT (aE rfl (fun h42 => ?_) (fun h42 => ?_)))
    ·refine aj (ah rfl (vQ 2 rfl (nT (aB (aD (au (bx (aD (au (?_))))))))))
     have hsg := vz (d := []) h19
     have hR : mm k l m g = none := by unfold mm; rw [hsg]; dsimp only; rw [show bf (bk (.ofNat m.length) (.ofNat g.init.length)) = false from h28, cond_false, hok, bV hx35]; unfold sI; rw [show bf (bk x35 (kj g (.ofNat i))) = true from h42]; rfl
     exact bS rfl rfl rfl ⟨.aq, [], by rw [hR]; rfl, by rw [hR]; exact .inl ⟨rfl, rfl, rfl⟩, hst.bl.pop⟩
    ·refine aF (aK (ad (ah rfl (vQ 2 rfl (af (aQ ⟨j5 - 1, by omega, (by (iterate 30 refine bq.put rfl ?_); exact bq.refl _ _), i + 1, by omega, (by rw [hok, bV hx35]; show (bif _ then _ else _) = _; rw [show bf (bk x35 (kj g (.ofNat i))) = false from h42]; rfl), congrArg (fun z => some (AV.int .i64 z)) (bg (by have := hmv.bG; omega)), hst⟩))))))
   ·refine nT (aj (aI rfl (bz (aZ (bc (aU (ad (aj (ah rfl (vQ 3 rfl (af (ad ?_))))))))))))
    refine aB ?_
    have hsg := vz (d := []) h19
    have hR : mm k l m g = jg k l g := by rw [hsg]; unfold mm; rw [hsg]; dsimp only; rw [show bf (bk (.ofNat m.length) (.ofNat g.init.length)) = false from h28, cond_false, hok, List.drop_eq_nil_iff.2 (bn h33)]; rfl
    exact bS rfl rfl rfl ⟨_, M14, by rw [hR, xy h19], by rw [hR]; exact hO, hst.sub (ig (.cons _ (.refl _)))⟩
theorem HK {G : Cx} (hG : Plain G) {K : KP} (hgl : kP G K) {k : Nat} {l : List XC} {lv : AV} (hl : bC K 2 (jM K k) l lv) {m : List Int} {mv : AV} (hmv : bC K 1 dE m mv) {g : XG} {a b c d : AV} (hg : eX K g a b c d) {σ : av} {L : Own} (hst : St σ K L) :
  a7 Tryz.prog G 23 [lv, .agg [mv, a, b, c, d]] σ fun v σ' => v = .bool (HJ k l m g) ∧ St σ' K L := by
 refine a8 hG Tryz.func23 rfl (t := (PT.leaf.put (some (lv)) 0).put (some (.agg [mv, a, b, c, d])) 1) (by rfl) (aj (ah rfl (bp hst rfl (cU rfl rfl) (fun _ => rfl) (fun σ b1 hst => ?_))))
 refine vQ 1 rfl (nS rfl (vQ 1 rfl (aa rfl (IC rfl (hst.get 0 rfl) (n := 5) (vs := [_, _, _, _, _]) rfl) rfl (cJ rfl (It rfl rfl rfl) (fun _ => rfl) (Eo hG hgl hl hmv hg hst) ?_))))
 rintro _ σ ⟨u10, M10, rfl, hO, hst⟩
 refine vQ 5 rfl (nS rfl (vQ 2 rfl (nT (aB ?_))))
 exact ay rfl rfl ⟨rfl, hst.bl.pop⟩
theorem Ge {G : Cx} (hG : Plain G) (hfk : G.fk 70 = true) (hov : G.ov 106 = true) {K : KP} (hgl : kP G K) {k : Nat} {l : List XC} {lv : AV} (hl : bC K 2 (jM K k) l lv) {r : XM} (hinv : jr k l r) {mv : AV} (hmv : bC K 1 dE r.mem mv) {a b c d : AV} (hg : eX K r.g a b c d) (p : Int) {σ : av} {L : Own} (hst : St σ K L) :
  a7 Tryz.prog G 20 [lv, .agg [mv, a, b, c, d], .int .i64 p] σ fun v σ' => (∃ e, v = .tuple [.agg [.aq, .aq, .aq, .aq, .aq], .int .i64 e] ∧ bk e 0 = false ∧ iE k l r p = none ∧ St σ' K L) ∨
   ∃ K1 r' m' a' b' c' d', v = .tuple [.agg [m', a', b', c', d'], .int .i64 0] ∧ iE k l r p = some r' ∧ KP.le K K1 ∧ bC K1 1 dE r'.mem m' ∧ eX K1 r'.g a' b' c' d' ∧ St σ' K1 L := by
 have hck := hinv.GY
 obtain ⟨b1_, b2_, b3_, _⟩ := cq hck
 have hm6 : r.mem.length ≤ 6 := by rw [hinv.mem]; exact b2_
 refine a8 hG Tryz.func20 rfl (t := ((PT.leaf.put (some (lv)) 0).put (some (.agg [mv, a, b, c, d])) 1).put (some (.int .i64 p)) 2) (by rfl) (aj (ah rfl (bp hst rfl (cU rfl rfl) (fun _ => rfl) (fun σ b1 hst => ?_))))
 refine bp hst rfl (Ix (cs := [.aq, .aq, .aq, .aq, .aq])) (fun _ => rfl) (fun σ b2 hst => ?_)
 refine vQ 1 rfl (nT (aj (aj (ah rfl (vQ 1 rfl (aa rfl (IC rfl (hst.get 1 rfl) (n := 5) (vs := [_, _, _, _, _]) rfl) rfl (a9 rfl (It rfl rfl rfl) (fun _ => rfl) (show a7 Tryz.prog G 23 _ _ (fun v σ' => v = .bool true ∧ St σ' K _) from by have := HK hG hgl hl hmv hg hst; rwa [hinv.is] at this) (fun σ hst => ?_))))))))
 refine aa rfl (dI rfl) rfl (aL rfl (al rfl) (fun _ => rfl) (fun h14 => ?_) (fun h14 => ?_))
 ·exact absurd h14 (by decide)
 ·refine vQ 3 rfl (aL rfl (al rfl) (fun _ => rfl) (fun h18 => ?_) (fun h18 => ?_))
  ·refine vQ 5 rfl (nT (aC rfl (aj (ah rfl (aa rfl (Is (places := [(0, 1), (1, 4)]) (zero := [.aq, .aq, .aq, .aq, .aq]) (cs := [_, _, _, _, _]) rfl) rfl (bA hst rfl (Io rfl rfl rfl (hst.get 0 rfl) (m := 5) rfl rfl (cells' := [_, _, _, _, _]) rfl) rfl (fun σ hst => ?_)))))))
   refine vQ 1 rfl (nT (aB (au (?_))))
   exact bm rfl rfl (hst.get 0 rfl) (m := 5) (by kernel_rfl) rfl rfl (.inl ⟨2, rfl, rfl, by unfold iE; rw [h18]; rfl, hst.pop.pop⟩)
  ·refine vQ 2 rfl (aa rfl (H9 hl rfl rfl rfl (e := 33) rfl) rfl (vQ 2 rfl (nT (aE rfl (fun h23 => ?_) (fun h23 => ?_)))))
   ·refine aj (ah rfl (aa rfl (Is (places := [(0, 1), (1, 4)]) (zero := [.aq, .aq, .aq, .aq, .aq]) (cs := [_, _, _, _, _]) rfl) rfl (bA hst rfl (Io rfl rfl rfl (hst.get 0 rfl) (m := 5) rfl rfl (cells' := [_, _, _, _, _]) rfl) rfl (fun σ hst => ?_))))
    refine vQ 1 rfl (nT (aB (au (?_))))
    exact bm rfl rfl (hst.get 0 rfl) (m := 5) (by kernel_rfl) rfl rfl (.inl ⟨2, rfl, rfl, by unfold iE; rw [h18, h23]; rfl, hst.pop.pop⟩)
   ·refine aF (ad (aj (ah rfl (aa rfl (Iz 1 rfl) rfl (aa rfl (IC rfl (hst.get 1 rfl) (n := 4) (vs := [_, _, _, _]) rfl) rfl (aa rfl (Is (places := [(0, 6), (6, 4)]) (zero := [.int .i64 0, .int .i64 0, .int .i64 0, .int .i64 0, .int .i64 0, .int .i64 0, .aq, .aq, .aq, .aq]) (cs := [_, _, _, _, _, _, _, _, _, _]) rfl) rfl (bp hst rfl (Ix (cs := [.int .i64 0, .int .i64 0, .int .i64 0, .int .i64 0, .int .i64 0, .int .i64 0, .aq, .aq, .aq, .aq])) (fun _ => rfl) (fun σ b3 hst => ?_))))))))
    refine bA hst rfl (Io rfl rfl rfl (hst.get 0 rfl) (m := 10) rfl (ae rfl (ae rfl (ae rfl (ae rfl (ae rfl (ae rfl (ae hg.init.leaf.2 (ae hg.threads.leaf.2 (ae hg.from_.leaf.2 (ae hg.order.leaf.2 az)))))))))) (cells' := [_, _, _, _, _, _, _, _, _, _]) rfl) rfl (fun σ hst => ?_)
    refine nT (aj (aR (l := [(0, []), (1, []), (2, []), (3, []), (4, [])]) (by kernel_rfl) (by kernel_rfl) (an rfl rfl (Iz 0 rfl) rfl ?_)))
    refine an rfl rfl (aV (v := .slice b3 0 6 (.known 6)) rfl (si (e := 2) (n := 6) (by kernel_rfl) (by kernel_rfl) rfl)) rfl ?_
    refine an rfl rfl (Iz 0 rfl) rfl (an rfl rfl (Ia rfl (hst.get 2 rfl) rfl) rfl ?_)
    obtain ⟨σ, v32, x0, x1, x2, x3, x4, x5, hcp, hst, hm⟩ := xS (P := Tryz.prog) (ts := #[22, 22]) (t := 22) (ty := 2) hst hmv hm6 rfl (by kernel_rfl) (by kernel_rfl)
    refine an rfl rfl (xq rfl rfl rfl rfl hcp) rfl (ba (ad (aj (ah rfl (aa rfl (IC rfl (hst.get 0 rfl) (n := 10) (vs := [_, _, _, _, _, _, _, _, _, _]) rfl) rfl (vQ 2 rfl ?_))))))
    obtain ⟨tp, rfl⟩ := mI h18
    have htl : tp < l.length := by have := bn h23; omega
    refine cJ rfl (It rfl rfl rfl) (fun _ => rfl) (AX hG hfk hov hgl hl hinv hg hm htl hst) ?_
    rintro _ σ (⟨e, rfl, he, hne, hst⟩ | ⟨K3, r2, z0, z1, z2, z3, z4, z5, a2, b2_, c2, d2, hle3, hsm, rfl, hg2, hm2, hst⟩)
    ·refine vQ 3 rfl (bA hst rfl (Io rfl rfl rfl (hst.get 0 rfl) (m := 10) rfl rfl (cells' := [_, _, _, _, _, _, _, _, _, _]) rfl) rfl (fun σ hst => ?_))
     refine vQ 1 rfl (nT (aj (aj (ah rfl (vQ 2 rfl (nT (aE rfl (fun h41 => ?_) (fun h41 => ?_))))))))
     ·refine aj (ah rfl (aa rfl (Is (places := [(0, 1), (1, 4)]) (zero := [.aq, .aq, .aq, .aq, .aq]) (cs := [_, _, _, _, _]) rfl) rfl (vQ 1 rfl (dY hst rfl (Io rfl rfl rfl (hst.get 1 rfl) (m := 5) rfl rfl (cells' := [_, _, _, _, _]) rfl) rfl (fun σ hst => ?_)))))
      refine vQ 1 rfl (nT (aB (au (?_))))
      have htry : iE k l r (Int.ofNat (tp + 1)) = none := by unfold iE; rw [h18, h23]; simp only [cond_false, show (Int.ofNat (tp + 1)).toNat - 1 = tp from rfl]; rw [← he, hne]; rfl
      exact bm rfl rfl (hst.get 1 rfl) (m := 5) (by kernel_rfl) rfl rfl (.inl ⟨e, rfl, hne, htry, hst.pop.pop.pop⟩)
     ·exact absurd (a6 h41) (by rw [hne]; decide)
    ·refine vQ 3 rfl (bA hst rfl (Io rfl rfl rfl (hst.get 0 rfl) (m := 10) rfl (ae rfl (ae rfl (ae rfl (ae rfl (ae rfl (ae rfl (ae hg2.init.leaf.2 (ae hg2.threads.leaf.2 (ae hg2.from_.leaf.2 (ae hg2.order.leaf.2 az)))))))))) (cells' := [_, _, _, _, _, _, _, _, _, _]) rfl) rfl (fun σ hst => ?_))
     refine vQ 1 rfl (nT (aj (aj (ah rfl (vQ 2 rfl (nT (aE rfl (fun h41 => ?_) (fun h41 => ?_))))))))
     ·exact absurd h41 (by decide)
     ·refine aF (ad (aj (ah rfl (aa rfl (IC rfl (hst.get 0 rfl) (n := 10) (vs := [_, _, _, _, _, _, _, _, _, _]) rfl) rfl ?_))))
      have hpi := (hinv.step hsm).1
      refine cJ rfl (It rfl rfl rfl) (fun _ => rfl) (CC hG hpi.GY hpi.mem hg2 hm2 hst) ?_
      rintro _ σ ⟨K4, mv2, a3, b3_, c3, d3, rfl, hle4, hmv2, hg3, hst⟩
      refine dY hst rfl (Io rfl rfl rfl (hst.get 1 rfl) (m := 5) rfl (ae hmv2.leaf.2 (ae hg3.init.leaf.2 (ae hg3.threads.leaf.2 (ae hg3.from_.leaf.2 (ae hg3.order.leaf.2 az))))) (cells' := [_, _, _, _, _]) rfl) rfl (fun σ hst => ?_)
      refine vQ 1 rfl (nT (aB ?_))
      have htry : iE k l r (Int.ofNat (tp + 1)) = some r2 := by unfold iE; rw [h18, h23]; simp only [cond_false, show (Int.ofNat (tp + 1)).toNat - 1 = tp from rfl]; rw [hsm]; rfl
      exact bm rfl rfl (hst.get 1 rfl) (m := 5) (by kernel_rfl) rfl rfl (.inr ⟨K4, r2, _, _, _, _, _, rfl, htry, KP.le_trans hle3 hle4, hmv2, hg3, hst.pop.pop.pop⟩)
end Go.Ev
