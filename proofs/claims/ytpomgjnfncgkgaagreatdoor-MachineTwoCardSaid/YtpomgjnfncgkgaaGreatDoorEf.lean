/- Part of the proof: an evaluator of the model's code, rules for walks on it, walks. Without conditions. -/
import Derived.Test.YtpomgjnfncgkgaaGreatDoorEc
import Derived.Test.YtpomgjnfncgkgaaGreatDoorEe
import Derived.Test.YtpomgjnfncgkgaaGreatDoorEd
import Derived.Test.YtpomgjnfncgkgaaGreatDoorProg
import Derived.KernelRfl
set_option linter.unusedSectionVars false
set_option linter.unusedVariables false
set_option linter.unusedSimpArgs false
namespace Go.Ev
variable [Env]
open Go.Proofs
set_option maxRecDepth 4000
set_option maxHeartbeats 8000000
theorem GI {G : Cx} (hG : Plain G) {K : KP} : ∀ (k : Nat) (x : XE) (vs : List AV), gH K k x vs → ∀ (left : Int) (σ : av) (L : Own), St σ K L → a7 Tryz.prog G 72 [.agg vs, .int .i64 left] σ fun v σ' => v = .int .i64 (x8 k x left) ∧ St σ' K L := by
 intro k
 induction k with
 | zero => intro x vs h; cases x; exact h.elim
 | succ k ih =>
 intro x vs h left σ L hst
 obtain ⟨op, num, name, kids⟩ := x
 obtain ⟨v, rfl, hk⟩ := h
 refine a8 hG Tryz.func72 rfl (t := (PT.leaf.put (some (.agg _)) 0).put (some (.int .i64 left)) 1) (by rfl) (aj (ah rfl (bp hst rfl (cU rfl rfl) (fun _ => rfl) (fun σ b1 hst => ?_))))
 refine vQ 1 rfl (nS rfl (vQ 2 rfl (aa rfl (Iz 2 rfl) rfl (aa rfl (Ia rfl (hst.get 0 rfl) rfl) rfl (aa rfl (ji rfl rfl rfl (by kernel_rfl) rfl) rfl (vQ 3 rfl (nT (aj (aj ?_)))))))))
 refine ah rfl (vQ 1 rfl (nT (aP ?_)))
 obtain ⟨LL1, hst, hLL1⟩ := hst.named
 refine bu [1, 5, 13, 14, 15, 16, 17, 18, 19, 20, 21, 22, 23, 24, 25, 26, 27, 28, 29, 30] (fun j t σ => ∃ (i : Nat) (m : Int), j + i = kids.length ∧ ra (x8 k) kids (Ft name left) = ra (x8 k) (kids.drop i) m ∧ t.get 1 = some (.int .i64 m) ∧ t.get 5 = some (.int .i64 (.ofNat i)) ∧ St σ K LL1) (kids.length) ⟨0, _, rfl, rfl, rfl, rfl, hst⟩ ?_
 clear hst; intro j3 t σ ar hI; obtain ⟨i, m, hj, hh, hv1, hv5, hst⟩ := hI
 subst hLL1
 obtain ⟨o1, o5, o13, o14, o15, o16, o17, o18, o19, o20, o21, o22, o23, o24, o25, o26, ar⟩ := ar.HE rfl rfl rfl rfl
 replace ar := ar.rp rfl; obtain ⟨o27, o28, o29, o30, ar⟩ := ar
 obtain rfl := ar.nil; clear ar
 replace hv1 : o1 = some _ := hv1; subst hv1
 replace hv5 : o5 = some _ := hv5; subst hv5
 refine aj (aj (ah rfl (vQ 1 rfl (aa rfl (Iz 3 rfl) rfl (aa rfl (Ia rfl (hst.get 0 rfl) rfl) rfl (aa rfl (H9 hk rfl rfl rfl (e := 82) rfl) rfl (vQ 1 rfl (aL rfl (al rfl) (fun _ => rfl) (fun h18 => ?_) (fun h18 => ?_)))))))))
 ·refine vQ 3 rfl (nT (aE rfl (fun h21 => ?_) (fun h21 => ?_)))
  ·refine aF (ad (aj (aP (ah rfl (aa rfl (Iz 3 rfl) rfl (aa rfl (Ia rfl (hst.get 0 rfl) rfl) rfl (vQ 1 rfl ?_)))))))
   obtain ⟨x27, hx27, hi27⟩ := dv h18
   refine Ib (e := 82) (m := 4) hk hx27 rfl rfl rfl rfl (fun _ => rfl) (fun p27 vs27 hp27 hl27 hr27 => ?_)
   obtain ⟨o27, n27, s27, v27, rfl, hk27⟩ := hr27.shape
   refine aa rfl (cr hst hp27 rfl (by kernel_rfl) rfl) rfl (vQ 1 rfl (a9 rfl (It rfl rfl rfl) (fun _ => rfl) (ih _ _ hr27 _ _ _ hst) (fun σ hst => ?_)))
   refine vQ 1 rfl (af (aK (ad (ah rfl (vQ 3 rfl (af (aQ ⟨j3 - 1, by omega, (by (iterate 40 refine bq.put rfl ?_); exact bq.refl _ _), i + 1, _, by omega, hh.trans (yS hx27 (bM h21)), rfl, congrArg (fun z => some (AV.int .i64 z)) (bg (by have := hk.bG; omega)), hst⟩)))))))
  ·refine bz (aZ (bc (aU (ad (aj (ah rfl (vQ 2 rfl (nT (aB ?_)))))))))
   exact ay rfl rfl ⟨congrArg (AV.int .i64) (by rw [Bq (a6 h21)] at hh; rw [← hh]; rfl), hst.pop⟩
 ·refine vQ 3 rfl (nT (aI rfl (bz (aZ (bc (aU (ad (aj (ah rfl (vQ 2 rfl (af (ad ?_))))))))))))
  refine aB ?_
  exact ay rfl rfl ⟨congrArg (AV.int .i64) (by rw [BG (bn h18)] at hh; rw [← hh]; rfl), hst.pop⟩
theorem EC {G : Cx} (hG : Plain G) {K : KP} {k : Nat} {x : XE} {vs : List AV} {σ : av} {L : Own} (hst : St σ K L) (h : gH K k x vs) (most : Int) : a7 Tryz.prog G 44 [.agg vs, .int .i64 most] σ fun v σ' => v = .bool (y7 k x most) ∧ St σ' K L := by
 obtain ⟨o0, n0, s0, v0, rfl, hk⟩ := h.shape
 refine a8 hG Tryz.func44 rfl (t := (PT.leaf.put (some (.agg _)) 0).put (some (.int .i64 most)) 1) (by rfl) (aj (ah rfl (bp hst rfl (cU rfl rfl) (fun _ => rfl) (fun σ b1 hst => ?_))))
 refine vQ 1 rfl (nS rfl (aa rfl (IC rfl (hst.get 0 rfl) (n := 4) (vs := [_, _, _, _]) rfl) rfl (vQ 1 rfl (a9 rfl (It rfl rfl rfl) (fun _ => rfl) (GI hG _ _ _ h _ _ _ hst ) (fun σ hst => ?_)))))
 refine vQ 2 rfl (nT (aB ?_))
 exact ay rfl rfl ⟨rfl, hst.pop⟩
theorem xd {G : Cx} (hG : Plain G) {K : KP} {k : Nat} {x : XC} {vs : List AV} {σ : av} {L : Own} (hst : St σ K L) (h : jM K k x vs) (most : Int) : a7 Tryz.prog G 11 [.agg vs, .int .i64 most] σ fun v σ' => v = .bool (oD k most x) ∧ St σ' K L := by
 have h' := h; obtain ⟨v0, rfl, hk⟩ := h'
 refine a8 hG Tryz.func11 rfl (t := (PT.leaf.put (some (.agg _)) 0).put (some (.int .i64 most)) 1) (by rfl) (aj (ah rfl (bp hst rfl (cU rfl rfl) (fun _ => rfl) (fun σ b1 hst => ?_))))
 refine vQ 1 rfl (nT (aj (aj (ah rfl (aa rfl (Iz 1 rfl) rfl (aa rfl (Ia rfl (hst.get 0 rfl) rfl) rfl (aa rfl (H9 hk rfl rfl rfl (e := 79) rfl) rfl (vQ 2 rfl (nT (aE rfl (fun h11 => ?_) (fun h11 => ?_)))))))))))
 ·refine aj (ah rfl (vQ 1 rfl (nT (aB (au (?_))))))
  exact ay rfl rfl ⟨congrArg AV.bool (by unfold oD; rw [h11]; rfl), hst.pop⟩
 ·refine aF (ad (aj (aj (ah rfl (vQ 1 rfl (nT (aP ?_)))))))
  obtain ⟨LL1, hst, hLL1⟩ := hst.named
  refine bu [4, 5, 6, 12, 13, 14, 15, 16, 17, 18, 19, 20, 21, 22, 23, 24, 25, 26, 27, 28, 29, 30, 31, 32, 33, 34, 35, 36, 37, 38, 39, 40, 41, 42, 43, 44, 45, 46, 47, 48] (fun j t σ => ∃ (i : Nat), j + i = x.ins.length ∧ (x.ins.take i).all (su k) = true ∧ t.get 5 = some (.int .i64 (.ofNat i)) ∧ St σ K LL1) (x.ins.length) ⟨0, rfl, rfl, rfl, hst⟩ ?_
  clear hst; intro j4 t σ ar hI; obtain ⟨i, hj, ha, hv5, hst⟩ := hI
  subst hLL1
  obtain ⟨o4, o5, o6, o12, o13, o14, o15, o16, o17, o18, o19, o20, o21, o22, o23, o24, ar⟩ := ar.HE rfl rfl rfl rfl
  obtain ⟨o25, o26, o27, o28, o29, o30, o31, o32, o33, o34, o35, o36, o37, o38, o39, o40, ar⟩ := ar.HE rfl rfl rfl rfl
  replace ar := ar.dC rfl rfl; obtain ⟨o41, o42, o43, o44, o45, o46, o47, o48, ar⟩ := ar
  obtain rfl := ar.nil; clear ar
  replace hv5 : o5 = some _ := hv5; subst hv5
  refine aj (aj (ah rfl (vQ 1 rfl (aa rfl (Iz 1 rfl) rfl (aa rfl (Ia rfl (hst.get 0 rfl) rfl) rfl (aa rfl (H9 hk rfl rfl rfl (e := 79) rfl) rfl (vQ 1 rfl (nT (aE rfl (fun h16 => ?_) (fun h16 => ?_))))))))))
  ·refine aF (ad (aj (aP (aj (aj (ah rfl (aa rfl (Iz 1 rfl) rfl (aa rfl (Ia rfl (hst.get 0 rfl) rfl) rfl (vQ 1 rfl ?_)))))))))
   obtain ⟨x22, hx22, hi22⟩ := dv h16
   refine Ib (e := 79) (m := 6) hk hx22 rfl rfl rfl rfl (fun _ => rfl) (fun p22 vs22 hp22 hl22 hr22 => ?_)
   have hr22' := hr22; obtain ⟨v22, rfl, hk22⟩ := hr22'
   refine bD hp22 rfl rfl rfl (k := 5) (by kernel_rfl) (lb rfl) (fun _ => rfl) (fun p23 hp23 => ?_)
   refine aa rfl (Ih hst hp23 rfl rfl) rfl (aa rfl (H9 hk22 rfl rfl rfl (e := 82) rfl) rfl (vQ 1 rfl (nT (aE rfl (fun h26 => ?_) (fun h26 => ?_)))))
   ·refine aj (ah rfl (vQ 1 rfl (nT (aB (au (aD (au (bx (aD (au (?_)))))))))))
    exact ay rfl rfl ⟨congrArg AV.bool (by unfold oD; rw [h11, ju hx22 (by unfold su; rw [h26]; rfl)]; rfl), hst.pop⟩
   ·refine aF (ad (aj (ah rfl (vQ 1 rfl (nT (aP ?_))))))
    obtain ⟨LL2, hst, hLL2⟩ := hst.named
    refine bu [4, 6, 27, 28, 29, 30, 31, 32, 33, 34, 35, 36, 37, 38, 39, 40, 41, 42, 43, 44, 45, 46, 47, 48] (fun j t σ => ∃ (i2 : Nat), j + i2 = x22.exprs.length ∧ (x22.exprs.take i2).all (fun e => y7 k e 60) = true ∧ t.get 6 = some (.int .i64 (.ofNat i2)) ∧ St σ K LL2) (x22.exprs.length) ⟨0, rfl, rfl, rfl, hst⟩ ?_
    clear hst; intro j9 t σ ar hI; obtain ⟨i2, hj2, ha2, hv6, hst⟩ := hI
    subst hLL2
    obtain ⟨o4, o6, o27, o28, o29, o30, o31, o32, o33, o34, o35, o36, o37, o38, o39, o40, ar⟩ := ar.HE rfl rfl rfl rfl
    replace ar := ar.dC rfl rfl; obtain ⟨o41, o42, o43, o44, o45, o46, o47, o48, ar⟩ := ar
    obtain rfl := ar.nil; clear ar
    replace hv6 : o6 = some _ := hv6; subst hv6
    refine aj (aj (ah rfl (vQ 1 rfl (aa rfl (Iz 1 rfl) rfl (aa rfl (Ia rfl (hst.get 0 rfl) rfl) rfl (vQ 1 rfl (Ib (e := 79) (m := 6) hk hx22 rfl rfl rfl rfl (fun _ => rfl) (fun p31 vs31 hp31 hl31 hr31 => ?_))))))))
    have hr31' := hr31; obtain ⟨v31, rfl, hk31⟩ := hr31'
    refine bD hp31 rfl rfl rfl (k := 5) (by kernel_rfl) (lb rfl) (fun _ => rfl) (fun p32 hp32 => ?_)
    refine aa rfl (Ih hst hp32 rfl rfl) rfl (aa rfl (H9 hk31 rfl rfl rfl (e := 82) rfl) rfl (vQ 1 rfl (nT (aE rfl (fun h35 => ?_) (fun h35 => ?_)))))
    ·refine aF (ad (aj (aP (aj (ah rfl (aa rfl (Iz 1 rfl) rfl (aa rfl (Ia rfl (hst.get 0 rfl) rfl) rfl (vQ 1 rfl (Ib (e := 79) (m := 6) hk hx22 rfl rfl rfl rfl (fun _ => rfl) (fun p41 vs41 hp41 hl41 hr41 => ?_))))))))))
     have hr41' := hr41; obtain ⟨v41, rfl, hk41⟩ := hr41'
     refine bD hp41 rfl rfl rfl (k := 5) (by kernel_rfl) (lb rfl) (fun _ => rfl) (fun p42 hp42 => ?_)
     refine aa rfl (Ih hst hp42 rfl rfl) rfl (vQ 1 rfl ?_)
     obtain ⟨x45, hx45, hi45⟩ := dv h35
     refine Ib (e := 82) (m := 4) hk41 hx45 rfl rfl rfl rfl (fun _ => rfl) (fun p45 vs45 hp45 hl45 hr45 => ?_)
     obtain ⟨o45, n45, s45, v45, rfl, hk45⟩ := hr45.shape
     refine aa rfl (cr hst hp45 rfl (by kernel_rfl) rfl) rfl (a9 rfl (It rfl rfl rfl) (fun _ => rfl) (EC hG hst hr45 _) (fun σ hst => ?_))
     refine aa rfl (dI rfl) rfl (nT (aE rfl (fun h48 => ?_) (fun h48 => ?_)))
     ·refine aj (ah rfl (vQ 1 rfl (nT (aB (aD (au (bx (aD (aD (au (bx (aD (au (?_))))))))))))))
      exact ay rfl rfl ⟨congrArg AV.bool (by unfold oD; rw [h11, ju hx22 (by unfold su; rw [h26, ju hx45 (by simpa using h48)]; rfl)]; rfl), hst.pop⟩
     ·refine aF (aK (ad (ah rfl (vQ 3 rfl (af (aQ ⟨j9 - 1, by omega, (by (iterate 47 refine bq.put rfl ?_); exact bq.refl _ _), i2 + 1, by omega, fL ha2 hx45 (by simpa using h48), congrArg (fun z => some (AV.int .i64 z)) (bg (by have := hk22.bG; omega)), hst⟩))))))
    ·refine bz (aZ (bc (aU (aK (ad (ah rfl (vQ 3 rfl (af (aQ ⟨j4 - 1, by omega, (by (iterate 90 refine bq.put rfl ?_); exact bq.refl _ _), i + 1, by omega, fL ha hx22 (by unfold su; rw [h26, ec ha2 (bn h35)]; rfl), congrArg (fun z => some (AV.int .i64 z)) (bg (by have := hk.bG; omega)), hst⟩)))))))))
  ·refine bz (aZ (bc (aU (ad (aj (ah rfl (vQ 1 rfl (nT (aB ?_)))))))))
   exact ay rfl rfl ⟨congrArg AV.bool (by unfold oD; rw [h11, ec ha (bn h16)]; rfl), hst.pop⟩
theorem wh {G : Cx} (hG : Plain G) {K : KP} {k : Nat} {l : List XC} {v : AV} {σ : av} {L : Own} (hst : St σ K L) (h : bC K 2 (jM K k) l v) (most : Int) : a7 Tryz.prog G 19 [v, .int .i64 most] σ fun v σ' => v = .bool (rC k most l) ∧ St σ' K L := by
 refine a8 hG Tryz.func19 rfl (t := (PT.leaf.put (some (v)) 0).put (some (.int .i64 most)) 1) (by rfl) (aj (ah rfl (vQ 1 rfl (nT (aj (aj (ah rfl (vQ 1 rfl (nT (aP ?_))))))))))
 obtain ⟨LL1, hst, hLL1⟩ := hst.named
 refine bu [4, 5, 6, 7, 8, 9, 10, 11, 12, 13, 14, 15, 16, 17, 18, 19, 20, 21, 22] (fun j t σ => ∃ (i : Nat), j + i = l.length ∧ (l.take i).all (oD k most) = true ∧ t.get 5 = some (.int .i64 (.ofNat i)) ∧ St σ K LL1) (l.length) ⟨0, rfl, rfl, rfl, hst⟩ ?_
 clear hst; intro j2 t σ ar hI; obtain ⟨i, hj, ha, hv5, hst⟩ := hI
 subst hLL1
 obtain ⟨o4, o5, o6, o7, o8, o9, o10, o11, o12, o13, o14, o15, o16, o17, o18, o19, ar⟩ := ar.HE rfl rfl rfl rfl
 replace ar := ar.fD rfl; obtain ⟨o20, ar⟩ := ar
 replace ar := ar.fD rfl; obtain ⟨o21, ar⟩ := ar
 replace ar := ar.fD rfl; obtain ⟨o22, ar⟩ := ar
 obtain rfl := ar.nil; clear ar
 replace hv5 : o5 = some _ := hv5; subst hv5
 refine aj (aj (ah rfl (vQ 2 rfl (aa rfl (H9 h rfl rfl rfl (e := 33) rfl) rfl (vQ 1 rfl (aL rfl (al rfl) (fun _ => rfl) (fun h10 => ?_) (fun h10 => ?_)))))))
 ·refine vQ 3 rfl (nT (aE rfl (fun h13 => ?_) (fun h13 => ?_)))
  ·refine aF (ad (aj (aP (aj (ah rfl (vQ 2 rfl ?_))))))
   obtain ⟨x18, hx18, hi18⟩ := dv h10
   refine Ib (e := 33) (m := 2) h hx18 rfl rfl rfl rfl (fun _ => rfl) (fun p18 vs18 hp18 hl18 hr18 => ?_)
   have hr18' := hr18; obtain ⟨v18, rfl, hk18⟩ := hr18'
   refine aa rfl (cr hst hp18 rfl (by kernel_rfl) rfl) rfl (vQ 1 rfl (a9 rfl (It rfl rfl rfl) (fun _ => rfl) (xd hG hst hr18 _) (fun σ hst => ?_)))
   refine aa rfl (dI rfl) rfl (nT (aE rfl (fun h22 => ?_) (fun h22 => ?_)))
   ·refine aj (ah rfl (vQ 1 rfl (nT (aB (aD (au (bx (aD (au (?_))))))))))
    exact ay rfl rfl ⟨congrArg AV.bool (by unfold rC; rw [EB hx18 (bW h13) (by simpa using h22)]; rfl), hst⟩
   ·refine aF (aK (ad (ah rfl (vQ 3 rfl (af (aQ ⟨j2 - 1, by omega, (by (iterate 37 refine bq.put rfl ?_); exact bq.refl _ _), i + 1, by omega, fL ha hx18 (by simpa using h22), congrArg (fun z => some (AV.int .i64 z)) (bg (by have := h.bG; omega)), hst⟩))))))
  ·refine bz (aZ (bc (aU (ad (aj (ah rfl (vQ 1 rfl (aa rfl (H9 h rfl rfl rfl (e := 33) rfl) rfl (vQ 2 rfl (nT (aB ?_)))))))))))
   exact ay rfl rfl ⟨congrArg AV.bool (by unfold rC; rw [xe ha (bn h13)]; rfl), hst⟩
 ·refine vQ 3 rfl (nT (aI rfl (bz (aZ (bc (aU (ad (aj (ah rfl (vQ 1 rfl (aa rfl (H9 h rfl rfl rfl (e := 33) rfl) rfl (vQ 2 rfl ?_))))))))))))
  refine nT (aB ?_)
  exact ay rfl rfl ⟨congrArg AV.bool (by unfold rC; rw [ec (i := i) (by rw [List.take_take]; exact xe ha (Nat.min_le_left _ _)) (by rw [List.length_take]; have := bn h10; omega)]; rfl), hst⟩
theorem Cq (k : Int) (n : Nat) : 0 - Int.ofNat (n + 1) < k.tmod (.ofNat (n + 1)) ∧ k.tmod (.ofNat (n + 1)) < .ofNat (n + 1) := by
 have h : (0 : Int) < .ofNat (n + 1) := by simp only [Int.ofNat_eq_natCast]; omega
 have h1 := Int.tmod_lt_of_pos k h
 have h2 := Int.lt_tmod_of_pos k h
 omega
theorem FN {G : Cx} (hG : Plain G) {K : KP} (k : Int) (n : Nat) (hn : n ≤ 100) {σ : av} {L : Own} (hst : St σ K L) :
  a7 Tryz.prog G 28 [.int .i64 k, .int .i64 (.ofNat (n + 1))] σ fun v σ' => ∃ j : Nat, v = .int .i64 (.ofNat j) ∧ j ≤ n ∧ St σ' K L := by
 have hr := Cq k n
 refine a8 hG Tryz.func28 rfl (t := (PT.leaf.put (some (.int .i64 k)) 0).put (some (.int .i64 (.ofNat (n + 1)))) 1) (by rfl) (aj (ah rfl (vQ 1 rfl (nS rfl (vQ 2 rfl (aa rfl (aA (v := .int .i64 (k.tmod (.ofNat (n + 1)))) rfl rfl rfl) rfl (vQ 1 rfl (nT (aj ?_)))))))))
 refine aj (ah rfl (vQ 2 rfl (nT (aE rfl (fun h9 => ?_) (fun h9 => ?_)))))
 ·refine ah rfl (vQ 4 rfl (nS rfl (vQ 2 rfl (nT (aB ?_)))))
  have h0 := of_decide_eq_true ((ek _ _).symm.trans h9)
  obtain ⟨q, hq⟩ := Int.eq_ofNat_of_zero_le (show 0 ≤ k.tmod (.ofNat (n + 1)) + .ofNat (n + 1) from by omega)
  exact ay rfl rfl ⟨q, congrArg (AV.int .i64) (by show wr .i64 (k.tmod (.ofNat (n + 1)) + .ofNat (n + 1)) = _; rw [hq]; exact EH (a := q) (b := 0) (by simp only [Int.ofNat_eq_natCast] at hr hq h0; omega)), by simp only [Int.ofNat_eq_natCast] at hr hq h0; omega, hst⟩
 ·refine aF (ad (aj (ah rfl (vQ 2 rfl (nT (aB ?_))))))
  have h0 := of_decide_eq_false ((ek _ _).symm.trans h9)
  obtain ⟨q, hq⟩ := Int.eq_ofNat_of_zero_le (show 0 ≤ k.tmod (.ofNat (n + 1)) from by omega)
  exact ay rfl rfl ⟨q, congrArg (AV.int .i64) hq, by simp only [Int.ofNat_eq_natCast] at hr hq h0; omega, hst⟩
theorem GV {G : Cx} (hG : Plain G) {K : KP} {k : Nat} {l : List XC} {lv : AV} (hl : bC K 2 (jM K k) l lv) (q : Int) {σ : av} {L : Own} (hst : St σ K L) :
  a7 Tryz.prog G 62 [lv, .int .i64 q] σ fun v σ' => ∃ b, v = .bool b ∧ St σ' K L := by
 refine a8 hG Tryz.func62 rfl (t := (PT.leaf.put (some (lv)) 0).put (some (.int .i64 q)) 1) (by rfl) (aj (ah rfl (vQ 1 rfl (nS rfl (vQ 1 rfl (nT (aj (aj (ah rfl ?_)))))))))
 refine vQ 1 rfl (nT (aP ?_))
 obtain ⟨LL1, hst, hLL1⟩ := hst.named
 refine bu [5, 6, 7, 8, 9, 10, 11, 12, 13, 14, 15, 16, 17, 18, 19, 20, 21, 22, 23, 24, 25, 26, 27, 28, 29, 30, 31, 32, 33, 34, 35, 36, 37, 38, 39, 40, 41, 42, 43, 44, 45, 46, 47, 48, 49, 50, 51, 52, 53, 54, 55, 56] (fun j t σ => ∃ (i : Nat) (m : Int), j + i = l.length ∧ t.get 5 = some (.int .i64 m) ∧ t.get 6 = some (.int .i64 (.ofNat i)) ∧ St σ K LL1) (l.length) ⟨0, 0, rfl, rfl, rfl, hst⟩ ?_
 clear hst; intro j3 t σ ar hI; obtain ⟨i, m, hj3, hv5, hv6, hst⟩ := hI
 subst hLL1
 obtain ⟨o5, o6, o7, o8, o9, o10, o11, o12, o13, o14, o15, o16, o17, o18, o19, o20, ar⟩ := ar.HE rfl rfl rfl rfl
 obtain ⟨o21, o22, o23, o24, o25, o26, o27, o28, o29, o30, o31, o32, o33, o34, o35, o36, ar⟩ := ar.HE rfl rfl rfl rfl
 obtain ⟨o37, o38, o39, o40, o41, o42, o43, o44, o45, o46, o47, o48, o49, o50, o51, o52, ar⟩ := ar.HE rfl rfl rfl rfl
 replace ar := ar.rp rfl; obtain ⟨o53, o54, o55, o56, ar⟩ := ar
 obtain rfl := ar.nil; clear ar
 replace hv5 : o5 = some _ := hv5; subst hv5
 replace hv6 : o6 = some _ := hv6; subst hv6
 refine aj (aj (ah rfl (vQ 2 rfl (aa rfl (H9 hl rfl rfl rfl (e := 33) rfl) rfl (vQ 1 rfl (aL rfl (al rfl) (fun _ => rfl) (fun h12 => ?_) (fun h12 => ?_)))))))
 ·refine vQ 3 rfl (nT (aE rfl (fun h15 => ?_) (fun h15 => ?_)))
  ·refine aF (ad (aj (aP (aj (ah rfl ?_)))))
   obtain ⟨x99, hx99, hi99⟩ := dv h12
   refine vQ 1 rfl (nT (aP ?_))
   obtain ⟨LL2, hst, hLL2⟩ := hst.named
   refine bu [5, 7, 18, 19, 20, 21, 22, 23, 24, 25, 26, 27, 28, 29, 30, 31, 32, 33, 34, 35, 36, 37, 38, 39, 40, 41, 42, 43, 44, 45, 46, 47, 48, 49, 50, 51, 52, 53, 54, 55, 56] (fun j t σ => ∃ (i2 : Nat) (m2 : Int), j + i2 = x99.ins.length ∧ t.get 5 = some (.int .i64 m2) ∧ t.get 7 = some (.int .i64 (.ofNat i2)) ∧ St σ K LL2) (x99.ins.length) ⟨0, m, rfl, rfl, rfl, hst⟩ ?_
   clear hst; intro j6 t σ ar hI; obtain ⟨i2, m2, hj6, hv5, hv7, hst⟩ := hI
   subst hLL2
   obtain ⟨o5, o7, o18, o19, o20, o21, o22, o23, o24, o25, o26, o27, o28, o29, o30, o31, ar⟩ := ar.HE rfl rfl rfl rfl
   obtain ⟨o32, o33, o34, o35, o36, o37, o38, o39, o40, o41, o42, o43, o44, o45, o46, o47, ar⟩ := ar.HE rfl rfl rfl rfl
   replace ar := ar.dC rfl rfl; obtain ⟨o48, o49, o50, o51, o52, o53, o54, o55, ar⟩ := ar
   replace ar := ar.fD rfl; obtain ⟨o56, ar⟩ := ar
   obtain rfl := ar.nil; clear ar
   replace hv5 : o5 = some _ := hv5; subst hv5
   replace hv7 : o7 = some _ := hv7; subst hv7
   refine aj (aj (ah rfl (vQ 3 rfl (Ib (e := 33) (m := 2) hl hx99 rfl rfl rfl rfl (fun _ => rfl) (fun p21 vs21 hp21 hl21 hr21 => ?_)))))
   have hr21' := hr21; obtain ⟨v21, rfl, hk21⟩ := hr21'
   refine bD hp21 rfl rfl rfl (k := 1) (by kernel_rfl) (lb rfl) (fun _ => rfl) (fun p22 hp22 => ?_)
   refine aa rfl (Ih hst hp22 rfl rfl) rfl (aa rfl (H9 hk21 rfl rfl rfl (e := 79) rfl) rfl (vQ 1 rfl (aL rfl (al rfl) (fun _ => rfl) (fun h26 => ?_) (fun h26 => ?_))))
   ·refine vQ 4 rfl (nT (aE rfl (fun h30 => ?_) (fun h30 => ?_)))
    ·refine aF (ad (aj (aP (aj (ah rfl (vQ 2 rfl (Ib (e := 33) (m := 2) hl hx99 rfl rfl rfl rfl (fun _ => rfl) (fun p35 vs35 hp35 hl35 hr35 => ?_))))))))
     have hr35' := hr35; obtain ⟨v35, rfl, hk35⟩ := hr35'
     refine bD hp35 rfl rfl rfl (k := 1) (by kernel_rfl) (lb rfl) (fun _ => rfl) (fun p36 hp36 => ?_)
     refine aa rfl (Ih hst hp36 rfl rfl) rfl (vQ 1 rfl ?_)
     obtain ⟨x39, hx39, hi39⟩ := dv h26
     refine Ib (e := 79) (m := 6) hk35 hx39 rfl rfl rfl rfl (fun _ => rfl) (fun p39 vs39 hp39 hl39 hr39 => ?_)
     have hr39' := hr39; obtain ⟨v39, rfl, hk39⟩ := hr39'
     refine bD hp39 rfl rfl rfl (k := 0) (by kernel_rfl) (lb rfl) (fun _ => rfl) (fun p40 hp40 => ?_)
     refine aa rfl (Ih hst hp40 rfl rfl) rfl (vQ 1 rfl (aL rfl (al rfl) (fun _ => rfl) (fun h43 => ?_) (fun h43 => ?_)))
     ·refine vQ 2 rfl (Ib (e := 33) (m := 2) hl hx99 rfl rfl rfl rfl (fun _ => rfl) (fun p46 vs46 hp46 hl46 hr46 => ?_))
      have hr46' := hr46; obtain ⟨v46, rfl, hk46⟩ := hr46'
      refine bD hp46 rfl rfl rfl (k := 1) (by kernel_rfl) (lb rfl) (fun _ => rfl) (fun p47 hp47 => ?_)
      refine aa rfl (Ih hst hp47 rfl rfl) rfl (vQ 1 rfl (Ib (e := 79) (m := 6) hk46 hx39 rfl rfl rfl rfl (fun _ => rfl) (fun p50 vs50 hp50 hl50 hr50 => ?_)))
      have hr50' := hr50; obtain ⟨v50, rfl, hk50⟩ := hr50'
      refine bD hp50 rfl rfl rfl (k := 0) (by kernel_rfl) (lb rfl) (fun _ => rfl) (fun p51 hp51 => ?_)
      refine aa rfl (Ih hst hp51 rfl rfl) rfl (vQ 2 rfl (nT (aE rfl (fun h54 => ?_) (fun h54 => ?_))))
      ·refine ah rfl (vQ 3 rfl (af (aK (ad (ah rfl (vQ 3 rfl (af (aQ ⟨j6 - 1, by omega, (by (iterate 82 refine bq.put rfl ?_); exact bq.refl _ _), i2 + 1, _, by have := bW h26; omega, rfl, congrArg (fun z => some (AV.int .i64 z)) (bg (by have := hk21.bG; omega)), hst⟩))))))))
      ·refine aF (aK (ad (ah rfl (vQ 3 rfl (af (aQ ⟨j6 - 1, by omega, (by (iterate 79 refine bq.put rfl ?_); exact bq.refl _ _), i2 + 1, _, by have := bW h26; omega, rfl, congrArg (fun z => some (AV.int .i64 z)) (bg (by have := hk21.bG; omega)), hst⟩))))))
     ·refine vQ 11 rfl (nT (aI rfl (aF (aK (ad (ah rfl (vQ 3 rfl (af (aQ ⟨j6 - 1, by omega, (by (iterate 79 refine bq.put rfl ?_); exact bq.refl _ _), i2 + 1, _, by have := bW h26; omega, rfl, congrArg (fun z => some (AV.int .i64 z)) (bg (by have := hk21.bG; omega)), hst⟩)))))))))
    ·refine bz (aZ (bc (aU (aK (ad (ah rfl (vQ 3 rfl (af (aQ ⟨j3 - 1, by omega, (by (iterate 118 refine bq.put rfl ?_); exact bq.refl _ _), i + 1, _, by have := bW h12; omega, rfl, congrArg (fun z => some (AV.int .i64 z)) (bg (by have := hl.bG; omega)), hst⟩)))))))))
   ·refine vQ 4 rfl (nT (aI rfl (bz (aZ (bc (aU (aK (ad (ah rfl (vQ 3 rfl (af (aQ ⟨j3 - 1, by omega, (by (iterate 118 refine bq.put rfl ?_); exact bq.refl _ _), i + 1, _, by have := bW h12; omega, rfl, congrArg (fun z => some (AV.int .i64 z)) (bg (by have := hl.bG; omega)), hst⟩))))))))))))
  ·refine bz (aZ (bc (aU (ad (aj (ah rfl (vQ 4 rfl (nT (aB ?_)))))))))
   exact ay rfl rfl ⟨_, rfl, hst⟩
 ·refine vQ 3 rfl (nT (aI rfl (bz (aZ (bc (aU (ad (aj (ah rfl (vQ 4 rfl (af (ad ?_))))))))))))
  refine aB ?_
  exact ay rfl rfl ⟨_, rfl, hst⟩
theorem BO {G : Cx} (hG : Plain G) {K : KP} {k : Nat} {l : List XC} {lv : AV} (hl : bC K 2 (jM K k) l lv) (q : Int) {σ : av} {L : Own} (hst : St σ K L) :
  a7 Tryz.prog G 27 [lv, .int .i64 q] σ fun v σ' => ∃ b, v = .bool b ∧ St σ' K L := by
 refine a8 hG Tryz.func27 rfl (t := (PT.leaf.put (some (lv)) 0).put (some (.int .i64 q)) 1) (by rfl) (aj (ah rfl (vQ 1 rfl (nS rfl (vQ 1 rfl (a9 rfl (It rfl rfl rfl) (fun _ => rfl) (wh hG hst hl _) (fun σ hst => ?_)))))))
 refine aL rfl (al rfl) (fun _ => rfl) (fun h7 => ?_) (fun h7 => ?_)
 ·refine vQ 2 rfl (cJ rfl (It rfl rfl rfl) (fun _ => rfl) (GV hG hl _ hst) ?_)
  rintro _ σ ⟨b10, rfl, hst⟩
  refine vQ 2 rfl (nT (aB ?_))
  exact ay rfl rfl ⟨_, rfl, hst⟩
 ·refine vQ 5 rfl (nT (aB ?_))
  exact ay rfl rfl ⟨_, rfl, hst⟩
theorem CV {G : Cx} (hG : Plain G) {K : KP} {m1 m2 : List Int} {u1 u2 : AV} (hm1 : bC K 1 dE m1 u1) (hm2 : bC K 1 dE m2 u2) {g1 g2 : XG} {a1 b1 c1 d1 a2 b2 c2 d2 : AV} (hg1 : eX K g1 a1 b1 c1 d1) (hg2 : eX K g2 a2 b2 c2 d2) {σ : av} {L : Own} (hst : St σ K L) :
  a7 Tryz.prog G 22 [.agg [u1, a1, b1, c1, d1], .agg [u2, a2, b2, c2, d2]] σ fun v σ' => v = .bool (bif cz m1 m2 then cz g1 g2 else false) ∧ St σ' K L := by
 refine a8 hG Tryz.func22 rfl (t := (PT.leaf.put (some (.agg [u1, a1, b1, c1, d1])) 0).put (some (.agg [u2, a2, b2, c2, d2])) 1) (by rfl) (aj (ah rfl (bp hst rfl (cU rfl rfl) (fun _ => rfl) (fun σ b1 hst => ?_))))
 refine bp hst rfl (cU rfl rfl) (fun _ => rfl) (fun σ b2 hst => ?_)
 refine vQ 1 rfl (nS rfl (aa rfl (Iz 0 rfl) rfl (aa rfl (Ia rfl (hst.get 1 rfl) rfl) rfl (aa rfl (Iz 0 rfl) rfl (aa rfl (Ia rfl (hst.get 0 rfl) rfl) rfl (a9 rfl (It rfl rfl rfl) (fun _ => rfl) (Ab hG hst hm1 hm2) (fun σ hst => ?_)))))))
 refine aL rfl (al rfl) (fun _ => rfl) (fun h10 => ?_) (fun h10 => ?_)
 ·refine aa rfl (Iz 1 rfl) rfl (aa rfl (IC rfl (hst.get 1 rfl) (n := 4) (vs := [_, _, _, _]) rfl) rfl (aa rfl (Iz 1 rfl) rfl (aa rfl (IC rfl (hst.get 0 rfl) (n := 4) (vs := [_, _, _, _]) rfl) rfl (a9 rfl (It rfl rfl rfl) (fun _ => rfl) (Fj hG hst hg1 hg2) (fun σ hst => ?_)))))
  refine vQ 2 rfl (nT (aB ?_))
  exact ay rfl rfl ⟨congrArg AV.bool (by rw [h10]; rfl), hst.pop.pop⟩
 ·refine vQ 7 rfl (nT (aB ?_))
  exact ay rfl rfl ⟨congrArg AV.bool (by rw [h10]; rfl), hst.pop.pop⟩
theorem um {k : Nat} {l : List XC} : ∀ {ps : List Int} {s : XM × List Int}, (cR k l s ps).2.length ≤ s.2.length + ps.length
 | [], s => by show s.2.length ≤ _; omega
 | p :: ps, s => by
  have h := um (k := k) (l := l) (ps := ps) (s := jH k l s p)
  show (cR k l (jH k l s p) ps).2.length ≤ _
  have : (jH k l s p).2.length ≤ s.2.length + 1 := by
   unfold jH
   cases iE k l s.1 p with
   | none => show s.2.length ≤ _; omega
   | some r => show (s.2 ++ [p]).length ≤ _; rw [List.length_append]; exact Nat.le_refl _
  rw [List.length_cons]; omega
theorem vn {G : Cx} (hG : Plain G) (hfk : G.fk 70 = true) (hov : G.ov 106 = true) (hliv : G.Ch 18 [] = some (.bool true)) {K : KP} (hlaid : ∀ σ L, St σ K L → hX G.gl σ G.laid = true) (hgl : kP G K) {k : Nat} {init : List Int} {vi : AV} (hi : bC K 1 dE init vi) {l : List XC} {lv : AV} (hl : bC K 2 (jM K k) l lv) {ps : List Int} {pv : AV} (hp : bC K 1 dE ps pv) (q : Int) {σ : av} {L : Own} (hst : St σ K L) :
  a7 Tryz.prog G 5 [vi, lv, pv, .int .i64 q] σ fun v σ' => v = .bool true := by
 refine a8 hG Tryz.func5 rfl (t := (((PT.leaf.put (some (vi)) 0).put (some (lv)) 1).put (some (pv)) 2).put (some (.int .i64 q)) 3) (by rfl) (aj (ah rfl (vQ 1 rfl (nT (aj (aj (ah rfl (a9 rfl (It rfl rfl rfl) (fun _ => rfl) (Ct (v := .bool true) (hG.h1 _ _ _) hliv rfl rfl (hlaid _ _ hst) ⟨rfl, hst⟩) (fun σ hst => ?_)))))))))
 refine aa rfl (dI rfl) rfl (nT (aI rfl (aF (ad (aj (aj (ah rfl (vQ 1 rfl (cJ rfl (It rfl rfl rfl) (fun _ => rfl) (BO hG hl _ hst) ?_)))))))))
 rintro _ σ ⟨b22_, rfl, hst⟩
 refine aa rfl (dI rfl) rfl (aL rfl (al rfl) (fun _ => rfl) (fun h24 => ?_) (fun h24 => ?_))
 ·refine vQ 9 rfl (nT (aC rfl (aj (ah rfl (vQ 1 rfl (nT (aB (au (?_)))))))))
  exact ay rfl rfl rfl
 ·refine vQ 1 rfl (aa rfl (H9 hi rfl rfl rfl (e := 2) rfl) rfl (vQ 2 rfl (aL rfl (al rfl) (fun _ => rfl) (fun h29 => ?_) (fun h29 => ?_))))
  ·refine vQ 4 rfl (nT (aC rfl (aj (ah rfl (vQ 1 rfl (nT (aB (au (?_)))))))))
   exact ay rfl rfl rfl
  ·refine vQ 1 rfl (aa rfl (H9 hp rfl rfl rfl (e := 3) rfl) rfl (vQ 2 rfl (nT (aE rfl (fun h33 => ?_) (fun h33 => ?_)))))
   ·refine aj (ah rfl (vQ 1 rfl (nT (aB (au (?_))))))
    exact ay rfl rfl rfl
   ·refine aF (ad (aj (ah rfl (vQ 2 rfl (aa rfl (H9 hp rfl rfl rfl (e := 3) rfl) rfl ?_)))))
    have hp60 : ps.length ≤ 100 := by have := bn (b := ps.length) (a := 60) h33; omega
    refine aa rfl (aA (v := .int .i64 (.ofNat (ps.length + 1))) rfl rfl (congrArg (fun z => some (AV.int .i64 z)) (bg (by omega)))) rfl (cJ rfl (It rfl rfl rfl) (fun _ => rfl) (FN hG q ps.length (by omega) hst) ?_)
    rintro _ σ ⟨jn, rfl, hjn, hst⟩
    refine vQ 1 rfl (nS rfl (vQ 3 rfl (cJ rfl (It rfl rfl rfl) (fun _ => rfl) (zF hG hfk hov hgl hi hl hp hp60 hst) ?_)))
    rintro _ σ ⟨K1, m1, a1, b1_, c1, d1, n1, rfl, hle1, hok1, hbad1, hst⟩
    replace hp := hp.mono hle1 fun _ _ h => h
    replace hi := hi.mono hle1 fun _ _ h => h
    replace hl := hl.mono hle1 fun _ _ h => h.mono hle1
    replace hgl := hgl.mono hle1
    cases hE : bk (wC k init l) 0
    ·obtain ⟨rfl, rfl, rfl, rfl, rfl⟩ := hbad1 hE
     refine vQ 4 rfl (bp hst rfl (Ix (cs := [.aq, .aq, .aq, .aq, .aq])) (fun _ => rfl) (fun σ b1 hst => ?_))
     refine bA hst rfl (Io rfl rfl rfl (hst.get 0 rfl) (m := 5) rfl rfl (cells' := [_, _, _, _, _]) rfl) rfl (fun σ hst => ?_)
     refine vQ 2 rfl (nS rfl (vQ 4 rfl (ql (e := 3) (m := 1) (k := jn) hp hjn rfl rfl (by kernel_rfl) (by kernel_rfl) rfl rfl (fun _ => rfl) (fun w52 hw52 => ?_))))
     refine cJ rfl (It rfl rfl rfl) (fun _ => rfl) (zF hG hfk hov hgl hi hl hw52 (by rw [List.length_take]; omega) hst) ?_
     rintro _ σ ⟨K2, m2, a2, b2_, c2, d2, n2, rfl, hle2, hok2, hbad2, hst⟩
     replace hp := hp.mono hle2 fun _ _ h => h
     replace hi := hi.mono hle2 fun _ _ h => h
     replace hl := hl.mono hle2 fun _ _ h => h.mono hle2
     replace hgl := hgl.mono hle2
     obtain ⟨rfl, rfl, rfl, rfl, rfl⟩ := hbad2 hE
     refine vQ 4 rfl (bp hst rfl (Ix (cs := [.aq, .aq, .aq, .aq, .aq])) (fun _ => rfl) (fun σ b2 hst => ?_))
     refine bA hst rfl (Io rfl rfl rfl (hst.get 0 rfl) (m := 5) rfl rfl (cells' := [_, _, _, _, _]) rfl) rfl (fun σ hst => ?_)
     refine vQ 2 rfl (nT (aj (aj (ah rfl (vQ 2 rfl (aL rfl (al rfl) (fun _ => rfl) (fun h59 => ?_) (fun h59 => ?_)))))))
     ·refine vQ 3 rfl (nT (aC rfl (aj (ah rfl (vQ 4 rfl (nT (aB (au (?_)))))))))
      exact ay rfl rfl (congrArg AV.bool (jF _))
     ·exact absurd (a6 h59) (by rw [hE]; decide)
    ·obtain ⟨hex, rfl, hm1, hg1⟩ := hok1 hE
     refine vQ 4 rfl (bp hst rfl (Ix (cs := [.aq, .aq, .aq, .aq, .aq])) (fun _ => rfl) (fun σ b1 hst => ?_))
     refine bA hst rfl (Io rfl rfl rfl (hst.get 0 rfl) (m := 5) rfl (ae hm1.leaf.2 (ae hg1.init.leaf.2 (ae hg1.threads.leaf.2 (ae hg1.from_.leaf.2 (ae hg1.order.leaf.2 az))))) (cells' := [_, _, _, _, _]) rfl) rfl (fun σ hst => ?_)
     refine vQ 2 rfl (nS rfl (vQ 4 rfl (ql (e := 3) (m := 1) (k := jn) hp hjn rfl rfl (by kernel_rfl) (by kernel_rfl) rfl rfl (fun _ => rfl) (fun w52 hw52 => ?_))))
     refine cJ rfl (It rfl rfl rfl) (fun _ => rfl) (zF hG hfk hov hgl hi hl hw52 (by rw [List.length_take]; omega) hst) ?_
     rintro _ σ ⟨K2, m2, a2, b2_, c2, d2, n2, rfl, hle2, hok2, hbad2, hst⟩
     replace hp := hp.mono hle2 fun _ _ h => h
     replace hi := hi.mono hle2 fun _ _ h => h
     replace hl := hl.mono hle2 fun _ _ h => h.mono hle2
     replace hgl := hgl.mono hle2
     obtain ⟨_, rfl, hm2, hg2⟩ := hok2 hE
     replace hm1 := hm1.mono hle2 fun _ _ h => h
     replace hg1 := hg1.mono hle2
     refine vQ 4 rfl (bp hst rfl (Ix (cs := [.aq, .aq, .aq, .aq, .aq])) (fun _ => rfl) (fun σ b2 hst => ?_))
     refine bA hst rfl (Io rfl rfl rfl (hst.get 0 rfl) (m := 5) rfl (ae hm2.leaf.2 (ae hg2.init.leaf.2 (ae hg2.threads.leaf.2 (ae hg2.from_.leaf.2 (ae hg2.order.leaf.2 az))))) (cells' := [_, _, _, _, _]) rfl) rfl (fun σ hst => ?_)
     refine vQ 2 rfl (nT (aj (aj (ah rfl (vQ 2 rfl (aL rfl (al rfl) (fun _ => rfl) (fun h59 => ?_) (fun h59 => ?_)))))))
     ·exact absurd (bM h59) (by rw [hE]; decide)
     ·refine vQ 3 rfl (nT (aE rfl (fun h62 => ?_) (fun h62 => ?_)))
      ·exact absurd (bM h62) (by rw [hE]; decide)
      ·refine aF (ad (aj (aj (ah rfl ?_))))
       have hl0 := hl; have hgl0 := hgl; have hp0 := hp
       refine vQ 2 rfl (nT (aP (bu [14, 16, 17, 18, 67, 68, 69, 70, 71, 72, 73, 74, 75, 76, 77, 78, 79, 80, 81, 82, 83, 84, 85, 86, 87] (fun j t σ => ∃ (i : Nat) (K4 : KP) (m a b c d : AV), j + i = ps.length ∧ KP.le K2 K4 ∧ jr k l (cR k l (js init l, []) (ps.take i)).1 ∧ bC K4 1 dE (cR k l (js init l, []) (ps.take i)).1.mem m ∧ eX K4 (cR k l (js init l, []) (ps.take i)).1.g a b c d ∧ t.get 14 = some (.int .i64 (.ofNat (cR k l (js init l, []) (ps.take i)).2.length)) ∧ t.get 16 = some (.int .i64 (.ofNat i)) ∧ St σ K4 ((b2, .row [m, a, b, c, d] 44 false) :: (b1, .row [m1, a1, b1_, c1, d1] 44 false) :: L)) (ps.length - jn) ⟨jn, K2, _, _, _, _, _, by omega, KP.le_refl K2, ((sR hex).Es (s := (js init l, []))).1, hm2, hg2, rfl, rfl, hst⟩ ?_)))
       clear hst; intro j11 t σ ar hI; obtain ⟨i, K4, m, a, b, c, d, hj11, hleK, hin, hmv, hg, hv14, hv16, hst⟩ := hI
       obtain ⟨o14, o16, o17, o18, o67, o68, o69, o70, o71, o72, o73, o74, o75, o76, o77, o78, ar⟩ := ar.HE rfl rfl rfl rfl
       replace ar := ar.dC rfl rfl; obtain ⟨o79, o80, o81, o82, o83, o84, o85, o86, ar⟩ := ar
       replace ar := ar.fD rfl; obtain ⟨o87, ar⟩ := ar
       obtain rfl := ar.nil; clear ar
       replace hv14 : o14 = some _ := hv14; subst hv14
       replace hv16 : o16 = some _ := hv16; subst hv16
       refine aj (aj (ah rfl ?_))
       have hl := hl0.mono hleK fun _ _ h => h.mono hleK; have hgl := hgl0.mono hleK; have hp := hp0.mono hleK fun _ _ h => h
       refine vQ 2 rfl (aa rfl (H9 hp rfl rfl rfl (e := 3) rfl) rfl (vQ 1 rfl (nT (aE rfl (fun h70 => ?_) (fun h70 => ?_)))))
       ·refine aF (ad (aj (aP (aj (aR (l := [(0, []), (1, []), (2, []), (3, []), (4, []), (5, []), (10, []), (6, [10]), (7, []), (8, []), (9, []), (11, []), (12, [])]) (by kernel_rfl) (by kernel_rfl) (wQ 1 rfl (an rfl rfl (IC rfl (hst.get 0 rfl) (n := 5) (vs := [_, _, _, _, _]) rfl) rfl (wQ 2 rfl ?_))))))))
        obtain ⟨x78, hx78, hi78⟩ := dv h70
        refine Ic (e := 3) (m := 1) hp hx78 rfl rfl rfl rfl rfl (fun _ => rfl) (fun p78 vs78 hp78 hl78 hr78 => ?_)
        obtain rfl := hr78
        refine an rfl rfl (Ih hst hp78 rfl rfl) rfl (ue hst rfl rfl (Ix (cs := [.aq, .aq, .aq, .aq, .aq])) (fun _ => rfl) (fun σ b3 hst => ?_))
        refine gR rfl rfl (It rfl rfl rfl) (fun _ => rfl) (Ge hG hfk hov hgl hl hin hmv hg _ hst) ?_
        rintro _ σ (⟨e, rfl, hne, htry, hst⟩ | ⟨K3, r2, m5, a5, b5_, c5, d5, rfl, htry, hle3, hm5, hg5, hst⟩)
        ·refine ⟨(bP (np rfl rfl rfl rfl rfl (cs := [.aq, .aq, .aq, .aq, .aq]) (e := 44) (by kernel_rfl) (hst.get 0 rfl) (by kernel_rfl)) aY), ?_⟩
         refine wQ 3 rfl (lK hst rfl rfl (Io rfl rfl rfl (hst.get 0 rfl) (m := 5) rfl rfl (cells' := [_, _, _, _, _]) rfl) rfl (fun σ hst => ?_))
         refine ⟨aY, ?_⟩
         refine wQ 1 rfl (ba (ad (aj (ah rfl (vQ 2 rfl (nT (aE rfl (fun h84 => ?_) (fun h84 => ?_))))))))
         ·exact absurd h84 (by rw [hne]; decide)
         ·refine aF (aK (ad (ah rfl (vQ 3 rfl (af ?_)))))
          have hst := hst.pop
          have hlp := bW h70
          have hP : cR k l (js init l, []) (ps.take (i + 1)) = cR k l (js init l, []) (ps.take i) := by rw [g9 hx78]; unfold jH; rw [htry]
          refine aQ ⟨j11 - 1, by omega, (by (iterate 46 refine bq.put rfl ?_); exact bq.refl _ _), i + 1, K4, _, _, _, _, _, by omega, hleK, by rw [hP]; exact hin, by rw [hP]; exact hmv, by rw [hP]; exact hg, (by rw [hP]; first | rfl | exact congrArg (fun z => some (AV.int .i64 z)) ((bg (by omega)).trans (by rw [List.length_append]; rfl))), congrArg (fun z => some (AV.int .i64 z)) (bg (by omega)), hst⟩
        ·refine ⟨(bP (np rfl rfl rfl rfl rfl (cs := [.aq, .aq, .aq, .aq, .aq]) (e := 44) (by kernel_rfl) (hst.get 0 rfl) (by kernel_rfl)) aY), ?_⟩
         refine wQ 3 rfl (lK hst rfl rfl (Io rfl rfl rfl (hst.get 0 rfl) (m := 5) rfl (ae hm5.leaf.2 (ae hg5.init.leaf.2 (ae hg5.threads.leaf.2 (ae hg5.from_.leaf.2 (ae hg5.order.leaf.2 az))))) (cells' := [_, _, _, _, _]) rfl) rfl (fun σ hst => ?_))
         refine ⟨aY, ?_⟩
         refine wQ 1 rfl (ba (ad (aj (ah rfl (vQ 2 rfl (nT (aE rfl (fun h84 => ?_) (fun h84 => ?_))))))))
         ·refine aj (ah rfl (aa rfl (IC rfl (hst.get 0 rfl) (n := 5) (vs := [_, _, _, _, _]) rfl) rfl (dY hst rfl (Io rfl rfl rfl (hst.get 1 rfl) (m := 5) rfl (ae hm5.leaf.2 (ae hg5.init.leaf.2 (ae hg5.threads.leaf.2 (ae hg5.from_.leaf.2 (ae hg5.order.leaf.2 az))))) (cells' := [_, _, _, _, _]) rfl) rfl (fun σ hst => ?_))))
          refine nT (ah rfl (vQ 3 rfl (af (aK (ad (ah rfl (vQ 3 rfl (af ?_))))))))
          have hst := hst.pop
          have hlp := bW h70
          have hP : cR k l (js init l, []) (ps.take (i + 1)) = (r2, (cR k l (js init l, []) (ps.take i)).2 ++ [x78]) := by rw [g9 hx78]; unfold jH; rw [htry]
          have hcl : (cR k l (js init l, []) (ps.take i)).2.length ≤ 100 := by have := um (k := k) (l := l) (ps := ps.take i) (s := (js init l, [])); rw [List.length_take] at this; simp only [List.length_nil] at this; omega
          refine aQ ⟨j11 - 1, by omega, (by (iterate 50 refine bq.put rfl ?_); exact bq.refl _ _), i + 1, K3, _, _, _, _, _, by omega, KP.le_trans hleK hle3, by rw [hP]; exact (hin.iE htry).1, by rw [hP]; exact hm5, by rw [hP]; exact hg5, (by rw [hP]; first | rfl | exact congrArg (fun z => some (AV.int .i64 z)) ((bg (by omega)).trans (by rw [List.length_append]; rfl))), congrArg (fun z => some (AV.int .i64 z)) (bg (by omega)), hst⟩
         ·exact absurd h84 (by decide)
       ·refine bz (aZ (bc (aU (ad (aj (ah rfl ?_))))))
        have hP := uH (k := k) (l := l) (s := (js init l, [])) (bn h70)
        have hm_ : (cR k l (js init l, []) (ps.take i)).1.mem = (cR k l (js init l, []) ps).1.mem := by rw [hP]
        have hg_ : (cR k l (js init l, []) (ps.take i)).1.g = (cR k l (js init l, []) ps).1.g := by rw [hP]
        have hn_ : (cR k l (js init l, []) (ps.take i)).2.length = (cR k l (js init l, []) ps).2.length := by rw [hP]
        replace hm1 := hm1.mono hleK fun _ _ h => h; replace hg1 := hg1.mono hleK
        rw [← hm_] at hm1; rw [← hg_] at hg1
        refine aa rfl (IC rfl (hst.get 1 rfl) (n := 5) (vs := [_, _, _, _, _]) rfl) rfl (aa rfl (IC rfl (hst.get 0 rfl) (n := 5) (vs := [_, _, _, _, _]) rfl) rfl (a9 rfl (It rfl rfl rfl) (fun _ => rfl) (CV hG hm1 hmv hg1 hg hst) (fun σ hst => ?_)))
        refine aL rfl (al rfl) (fun _ => rfl) (fun h91 => ?_) (fun h91 => ?_)
        ·refine vQ 5 rfl (nT (aB ?_))
         exact ay rfl rfl (congrArg AV.bool (by rw [hn_]; exact jF _))
        ·exact absurd h91 (by rw [hm_, hg_, cu.2 rfl, cu.2 rfl]; decide)
section
variable {H : Type} {σ : av}
theorem Aq (hn : ∀ (b : Nat) (o : bF), σ.m.get b = some o → b < σ.next) : ∀ (fuel : Nat) (d : DataW H) (vs : List AV), Fit Tryz.prog fuel 82 d → du Tryz.prog σ fuel 82 d vs → gH (se σ) fuel (BY fuel d) vs
  | 0, _, _, hf, _ => hf.elim
  | 1, d, vs, hf, hd => by
    obtain ⟨_, h⟩ := nh (m := 4) Tryz.underlying82 (by kernel_rfl) (by kernel_rfl) hf hd
    exact (h 0 _ rfl).1.elim
  | fuel + 2, d, vs, hf, hd => by
    obtain ⟨hl, h⟩ := nh (m := 4) Tryz.underlying82 (by kernel_rfl) (by kernel_rfl) hf hd
    obtain ⟨a, b, c, e, rfl⟩ : ∃ a b c e, vs = [a, b, c, e] := by
      match vs, hl with
      | [a, b, c, e], _ => exact ⟨a, b, c, e, rfl⟩
    obtain ⟨f0, d0⟩ : Fit Tryz.prog _ 3 (dB d 0) ∧ du Tryz.prog σ _ 3 (dB d 0) (([a, b, c, e].drop 0).take (Tryz.prog.cellsOf 3)) := h 0 _ rfl
    obtain ⟨f1, d1⟩ : Fit Tryz.prog _ 2 (dB d 1) ∧ du Tryz.prog σ _ 2 (dB d 1) (([a, b, c, e].drop 1).take (Tryz.prog.cellsOf 2)) := h 1 _ rfl
    obtain ⟨f2, d2⟩ : Fit Tryz.prog _ 9 (dB d 2) ∧ du Tryz.prog σ _ 9 (dB d 2) (([a, b, c, e].drop 2).take (Tryz.prog.cellsOf 9)) := h 2 _ rfl
    obtain ⟨f3, d3⟩ : Fit Tryz.prog _ 77 (dB d 3) ∧ du Tryz.prog σ _ 77 (dB d 3) (([a, b, c, e].drop 3).take (Tryz.prog.cellsOf 77)) := h 3 _ rfl
    have c3 : Tryz.prog.cellsOf 3 = 1 := by kernel_rfl
    have c2 : Tryz.prog.cellsOf 2 = 1 := by kernel_rfl
    have c9 : Tryz.prog.cellsOf 9 = 1 := by kernel_rfl
    have c100 : Tryz.prog.cellsOf 77 = 1 := by kernel_rfl
    have e0 := (kJ Tryz.underlying3 f0 d0).1
    have e1 := (kJ Tryz.underlying2 f1 d1).1
    have e2 := F2 Tryz.underlying9 f2 d2
    obtain ⟨v, e3, hs⟩ := lu (m := 4) (BY fuel) (gH (se σ) fuel) Tryz.underlying77 (by kernel_rfl) (by decide) hn f3 d3 fun x vs hf hd => Aq hn fuel x vs hf hd
    rw [c3] at e0; rw [c2] at e1; rw [c9] at e2; rw [c100] at e3
    simp only [List.drop_zero, List.take_succ_cons, List.take_zero, List.drop_succ_cons, List.cons.injEq, and_true] at e0 e1 e2 e3
    subst e0; subst e1; subst e2; subst e3
    show ∃ w, _ = [_, _, _, w] ∧ bC (se σ) 4 (gH (se σ) (fuel + 1)) ((gx (dB d 3)).map (BY fuel)) w
    exact ⟨_, rfl, hs.Fv fun x vs h => gH.up h⟩
theorem Ew (hn : ∀ (b : Nat) (o : bF), σ.m.get b = some o → b < σ.next) (fuel : Nat) (d : DataW H) (vs : List AV) (hf : Fit Tryz.prog (fuel + 2) 79 d) (hd : du Tryz.prog σ (fuel + 2) 79 d vs) : fR (se σ) fuel (F3 fuel d) vs := by
  obtain ⟨hl, h⟩ := nh (m := 6) Tryz.underlying79 (by kernel_rfl) (by kernel_rfl) hf hd
  obtain ⟨a, b, c, e, g, i, rfl⟩ : ∃ a b c e g i, vs = [a, b, c, e, g, i] := by
    match vs, hl with
    | [a, b, c, e, g, i], _ => exact ⟨a, b, c, e, g, i, rfl⟩
  obtain ⟨f0, d0⟩ : Fit Tryz.prog _ 3 (dB d 0) ∧ du Tryz.prog σ _ 3 (dB d 0) (([a, b, c, e, g, i].drop 0).take (Tryz.prog.cellsOf 3)) := h 0 _ rfl
  obtain ⟨f1, d1⟩ : Fit Tryz.prog _ 3 (dB d 1) ∧ du Tryz.prog σ _ 3 (dB d 1) (([a, b, c, e, g, i].drop 1).take (Tryz.prog.cellsOf 3)) := h 1 _ rfl
  obtain ⟨f2, d2⟩ : Fit Tryz.prog _ 3 (dB d 2) ∧ du Tryz.prog σ _ 3 (dB d 2) (([a, b, c, e, g, i].drop 2).take (Tryz.prog.cellsOf 3)) := h 2 _ rfl
  obtain ⟨f3, d3⟩ : Fit Tryz.prog _ 3 (dB d 3) ∧ du Tryz.prog σ _ 3 (dB d 3) (([a, b, c, e, g, i].drop 3).take (Tryz.prog.cellsOf 3)) := h 3 _ rfl
  obtain ⟨f4, d4⟩ : Fit Tryz.prog _ 3 (dB d 4) ∧ du Tryz.prog σ _ 3 (dB d 4) (([a, b, c, e, g, i].drop 4).take (Tryz.prog.cellsOf 3)) := h 4 _ rfl
  obtain ⟨f5, d5⟩ : Fit Tryz.prog _ 77 (dB d 5) ∧ du Tryz.prog σ _ 77 (dB d 5) (([a, b, c, e, g, i].drop 5).take (Tryz.prog.cellsOf 77)) := h 5 _ rfl
  have c3 : Tryz.prog.cellsOf 3 = 1 := by kernel_rfl
  have c100 : Tryz.prog.cellsOf 77 = 1 := by kernel_rfl
  have e0 := (kJ Tryz.underlying3 f0 d0).1
  have e1 := (kJ Tryz.underlying3 f1 d1).1
  have e2 := (kJ Tryz.underlying3 f2 d2).1
  have e3 := (kJ Tryz.underlying3 f3 d3).1
  have e4 := (kJ Tryz.underlying3 f4 d4).1
  obtain ⟨v, e5, hs⟩ := lu (m := 4) (BY fuel) (gH (se σ) fuel) Tryz.underlying77 (by kernel_rfl) (by decide) hn f5 d5 fun x vs hf hd => Aq hn fuel x vs hf hd
  rw [c3] at e0 e1 e2 e3 e4; rw [c100] at e5
  simp only [List.drop_zero, List.take_succ_cons, List.take_zero, List.drop_succ_cons, List.cons.injEq, and_true] at e0 e1 e2 e3 e4 e5
  subst e0; subst e1; subst e2; subst e3; subst e4; subst e5
  exact ⟨_, rfl, hs⟩
theorem ED (hn : ∀ (b : Nat) (o : bF), σ.m.get b = some o → b < σ.next) (fuel : Nat) (d : DataW H) (vs : List AV) (hf : Fit Tryz.prog (fuel + 4) 33 d) (hd : du Tryz.prog σ (fuel + 4) 33 d vs) : jM (se σ) fuel (Ei fuel d) vs := by
  obtain ⟨hl, h⟩ := nh (m := 2) Tryz.underlying33 (by kernel_rfl) (by kernel_rfl) hf hd
  obtain ⟨a, b, rfl⟩ : ∃ a b, vs = [a, b] := by
    match vs, hl with
    | [a, b], _ => exact ⟨a, b, rfl⟩
  obtain ⟨f0, d0⟩ : Fit Tryz.prog _ 3 (dB d 0) ∧ du Tryz.prog σ _ 3 (dB d 0) (([a, b].drop 0).take (Tryz.prog.cellsOf 3)) := h 0 _ rfl
  obtain ⟨f1, d1⟩ : Fit Tryz.prog _ 31 (dB d 1) ∧ du Tryz.prog σ _ 31 (dB d 1) (([a, b].drop 1).take (Tryz.prog.cellsOf 31)) := h 1 _ rfl
  have c3 : Tryz.prog.cellsOf 3 = 1 := by kernel_rfl
  have c36 : Tryz.prog.cellsOf 31 = 1 := by kernel_rfl
  have e0 := (kJ Tryz.underlying3 f0 d0).1
  obtain ⟨v, e1, hs⟩ := lu (m := 6) (F3 fuel) (fR (se σ) fuel) Tryz.underlying31 (by kernel_rfl) (by decide) hn f1 d1 fun x vs hf hd => Ew hn fuel x vs hf hd
  rw [c3] at e0; rw [c36] at e1
  simp only [List.drop_zero, List.take_succ_cons, List.take_zero, List.drop_succ_cons, List.cons.injEq, and_true] at e0 e1
  subst e0; subst e1
  exact ⟨_, rfl, hs⟩
theorem DM (hn : ∀ (b : Nat) (o : bF), σ.m.get b = some o → b < σ.next) (fuel : Nat) (d : DataW H) (vs : List AV) (hf : Fit Tryz.prog (fuel + 5) 27 d) (hd : du Tryz.prog σ (fuel + 5) 27 d vs) : ∃ v, vs = [v] ∧ bC (se σ) 2 (jM (se σ) fuel) ((gx d).map (Ei fuel)) v :=
  lu (m := 2) (Ei fuel) (jM (se σ) fuel) Tryz.underlying27 (by kernel_rfl) (by decide) hn hf hd fun x vs hf hd => ED hn fuel x vs hf hd
end
section
variable {H : Type} {enc : TypeId × Value → H} {w : World}
theorem trod_int {fuel : Nat} {t : TypeId} {cs : List Value} {x : DataW H × List MemPlace} (hu : Tryz.prog.underlying t = some (.int .i64)) (h : DataW.trod enc Tryz.prog w 0 (fun _ => true) true fuel t cs = some x) : ∃ n, cs = [.int .i64 n] := by
  cases fuel with
  | zero => simp [DataW.trod] at h
  | succ fuel =>
    unfold DataW.trod at h
    rw [hu] at h
    dsimp only at h
    split at h <;> first | (rename_i he; cases he; done) | skip
    all_goals first
      | (rename_i k1 k2 n he
         cases he
         split at h
         · rename_i hk
           obtain ⟨hk1, _⟩ := hk
           subst hk1
           exact ⟨n, rfl⟩
         · cases h)
      | cases h
def Hd (w : World) (v : Value) : Prop := v = .slice none 0 0 ∨ ∃ (a : Addr) (len cap : Nat) (c : Array Value) (e : TypeId) (fr : Nat × Nat), v = .slice (some a) len cap ∧ w.heap[a.block]? = some (.cells c e fr)
theorem DN {base : Nat} {t e : TypeId} {v : Value} (hu : Tryz.prog.underlying t = some (.slice e)) (hok : Cell.okWide Tryz.prog w .any base t v) : Hd w v := by
  unfold Cell.okWide at hok
  rw [hu] at hok
  dsimp only at hok
  unfold Cell.ok at hok
  rw [hu] at hok
  cases v with
  | slice a len cap =>
    cases a with
    | none =>
      try dsimp only at hok
      split at hok <;> first | (rename_i he; cases he; done) | skip
      all_goals first
        | (rename_i he; cases he; exact .inl rfl)
        | (rename_i h1 h2; cases h2; done)
        | exact hok.elim
    | some a =>
      obtain ⟨_, _, _, hsp, row, cells, hsh, _⟩ := hok
      unfold World.shape? at hsh
      split at hsh
      · rename_i c e fr hh
        exact .inr ⟨a, len, cap, c, e, fr, rfl, hh⟩
      · cases hsh
  | _ => exact hok.elim
theorem trodAll_cons {P : Program} {ts : List TypeId} {t : TypeId} {vs : List Value} {ds : List (DataW H)} {ps : List MemPlace} {sp : Nat → Bool} (h : DataW.TrodAll enc P w 0 sp true (t :: ts) vs ds ps) :
    ∃ v vs' d ds', vs = v :: vs' ∧ ds = d :: ds' ∧ (∃ n p, DataW.trod enc P w 0 sp true n t v.cells.toList = some (d, p)) ∧ ∃ q, DataW.TrodAll enc P w 0 sp true ts vs' ds' q := by
  match vs, ds, h with
  | v :: vs', d :: ds', ⟨p, q, ⟨n, h1⟩, h2, _⟩ => exact ⟨v, vs', d, ds', rfl, rfl, ⟨n, p, h1⟩, q, h2⟩
theorem trodAll_nil {P : Program} {vs : List Value} {ds : List (DataW H)} {ps : List MemPlace} {sp : Nat → Bool} (h : DataW.TrodAll enc P w 0 sp true [] vs ds ps) : vs = [] ∧ ds = [] := by
  match vs, ds, h with
  | [], [], _ => exact ⟨rfl, rfl⟩
end
end Go.Ev
