/- Part of the proof: an evaluator of the model's code, rules for walks on it, walks. Without conditions. -/
import Derived.Test.YtpomgjnfncgkgaaGreatDoorEc
import Derived.Test.YtpomgjnfncgkgaaGreatDoorProg
import Derived.KernelRfl
import Derived.ReadAgain
import Derived.ProofKit
set_option linter.unusedSectionVars false
set_option linter.unusedVariables false
set_option linter.unusedSimpArgs false
namespace Go.Ev
variable [Env]
open Go.Proofs
set_option maxRecDepth 4000
set_option maxHeartbeats 8000000
theorem pU {G : Cx} (hG : Plain G) {K : KP} (n le mo : Int) (mu : Bool) {σ : av} {L : Own} (hst : St σ K L) : a7 Tryz.prog G 217 [.int .i64 n, .int .i64 le, .int .i64 mo, .bool mu] σ fun v σ' => v = .bool (eo n le mo mu) ∧ St σ' K L := by
 refine a8 hG Tryz.func217 rfl (t := (((PT.leaf.put (some (.int .i64 n)) 0).put (some (.int .i64 le)) 1).put (some (.int .i64 mo)) 2).put (some (.bool mu)) 3) (by rfl) (aj (ah rfl (vQ 1 rfl (nT (aj (aj (ah rfl (vQ 1 rfl (aa rfl (dI rfl) rfl (nT (aE rfl (fun h10 => ?_) (fun h10 => ?_))))))))))))
 ·have h10b := bM h10
  refine aj (ah rfl (vQ 3 rfl (nT (aB (au (?_))))))
  exact ay rfl rfl ⟨congrArg AV.bool (by unfold eo bf; simp only [h10b, cond_true, cond_false]), hst⟩
 ·have h10b := a6 h10
  refine aF (ad (aj (ah rfl (vQ 3 rfl (aL rfl (al rfl) (fun _ => rfl) (fun h16 => ?_) (fun h16 => ?_))))))
  ·refine vQ 5 rfl (nT (aB ?_))
   exact ay rfl rfl ⟨congrArg AV.bool (by unfold eo bf; simp only [h10b, h16, cond_true, cond_false]), hst⟩
  ·refine vQ 5 rfl (nT (aB ?_))
   exact ay rfl rfl ⟨congrArg AV.bool (by unfold eo bf; simp only [h10b, h16, cond_true, cond_false]), hst⟩
theorem DH {c : Nat} (h : cd (.ofNat c) 48 = true) : ¬ (48 ≤ c ∧ c ≤ 57) := by have : c < 48 := bW (b := 48) h; omega
theorem Dd {c : Nat} (h : cd 57 (.ofNat c) = true) : ¬ (48 ≤ c ∧ c ≤ 57) := by have : 57 < c := bW (a := 57) h; omega
theorem nC {c : Nat} (h : cd (.ofNat c) 48 = false) (h' : cd 57 (.ofNat c) = false) : 48 ≤ c ∧ c ≤ 57 := by have : 48 ≤ c := bn (b := 48) h; have : c ≤ 57 := bn (a := 57) h'; omega
theorem CJ {c m : Nat} (h : 48 ≤ c ∧ c ≤ 57) (hm : m ≤ 100000) : wr .i64 (Int.add (wr .i64 (Int.mul 10 (.ofNat m))) (wr .i64 (wr .u8 (Int.sub (.ofNat c) 48)))) = .ofNat (10 * m + (c - 48)) := by
 have e1 : Int.sub (.ofNat c) 48 = .ofNat (c - 48) := by show (c : Int) - 48 = ((c - 48 : Nat) : Int); omega
 have e2 : Int.mul 10 (.ofNat m) = .ofNat (10 * m) := rfl
 have w1 : wr .u8 (.ofNat (c - 48)) = .ofNat (c - 48) := by
  show (bif Nat.ble (c - 48) 255 then _ else _) = _
  rw [show Nat.ble (c - 48) 255 = true by rw [Nat.ble_eq]; omega]; rfl
 have w2 : ∀ q : Nat, q ≤ 9223372036854775807 → wr .i64 (.ofNat q) = .ofNat q := fun q hq => by
  show (bif Nat.ble q 9223372036854775807 then _ else _) = _
  rw [show Nat.ble q 9223372036854775807 = true by rw [Nat.ble_eq]; exact hq]; rfl
 rw [e1, e2, w1, w2 _ (by omega), w2 _ (by omega)]
 show wr .i64 (.ofNat (10 * m + (c - 48))) = _
 exact w2 _ (by omega)
theorem vP {s : List Nat} (h : s.length = 0 ∨ 4 < s.length ∨ (1 < s.length ∧ s[0]? = some 48)) : l7 s = none := by unfold l7; rw [if_pos h]
theorem lj {s : List Nat} (h : ¬ (s.length = 0 ∨ 4 < s.length ∨ (1 < s.length ∧ s[0]? = some 48))) : l7 s = oV s 0 := by unfold l7; rw [if_neg h]
def Hf (o : Option Nat) : Int := .ofNat (o.getD 0)
theorem zy : ∀ i, i ≤ 4 → 10 ^ i ≤ 10000 := by decide
theorem yT {G : Cx} (hG : Plain G) {K : KP} (s : List Nat) {σ : av} {L : Own} (hst : St σ K L) : a7 Tryz.prog G 253 [.str s] σ fun v σ' => v = .tuple [.int .i64 (Hf (l7 s)), .bool (l7 s).isSome] ∧ St σ' K L := by
 refine a8 hG Tryz.func253 rfl (t := PT.leaf.put (some (.str s)) 0) (by rfl) (aj (ah rfl (vQ 2 rfl (nT (aj (aj (ah rfl (vQ 1 rfl (aa rfl (ji rfl rfl rfl (by kernel_rfl) rfl) rfl (vQ 1 rfl (aL rfl (al rfl) (fun _ => rfl) (fun h9 => ?_) (fun h9 => ?_))))))))))))
 ·refine vQ 14 rfl (nT (aC rfl (aj (ah rfl (vQ 2 rfl (nT (aB (au (?_)))))))))
  exact bS rfl rfl rfl ⟨by rw [vP (.inl (by have := qp h9; rw [← bh]; exact Int.ofNat.inj this))]; rfl, hst⟩
 ·refine vQ 1 rfl (aa rfl (ji rfl rfl rfl (by kernel_rfl) rfl) rfl (vQ 2 rfl (aL rfl (al rfl) (fun _ => rfl) (fun h14 => ?_) (fun h14 => ?_))))
  ·refine vQ 9 rfl (nT (aC rfl (aj (ah rfl (vQ 2 rfl (nT (aB (au (?_)))))))))
   exact bS rfl rfl rfl ⟨by rw [vP (.inr (.inl (by rw [← bh]; exact bW (a := 4) h14)))]; rfl, hst⟩
  ·refine vQ 1 rfl (aa rfl (ji rfl rfl rfl (by kernel_rfl) rfl) rfl (vQ 1 rfl (aL rfl (al rfl) (fun _ => rfl) (fun h18 => ?_) (fun h18 => ?_))))
   ·refine vQ 1 rfl ?_
    obtain ⟨x20, hx20⟩ := cL (show 0 < s.length from by have := bW (a := 1) h18; rw [bh] at this; omega)
    refine aa rfl (ik (by kernel_rfl) rfl rfl hx20) rfl (vQ 3 rfl (nT (aE rfl (fun h23 => ?_) (fun h23 => ?_))))
    ·refine aj (ah rfl (vQ 2 rfl (nT (aB (au (?_))))))
     exact bS rfl rfl rfl ⟨by rw [vP (.inr (.inr ⟨by rw [← bh]; exact bW (a := 1) h18, by rw [hx20]; exact congrArg some (Int.ofNat.inj (eqv h23))⟩))]; rfl, hst⟩
    ·refine aF (ad (aj (ah rfl ?_)))
     have hl4 : b0 s ≤ 4 := bn (a := 4) h14
     have hne : ¬ (s.length = 0 ∨ 4 < s.length ∨ (1 < s.length ∧ s[0]? = some 48)) := by
      have hl4 := hl4; rw [bh] at hl4
      have h9z : s.length ≠ 0 := fun e => by rw [bh, e] at h9; cases h9
      rintro (e | e | ⟨_, e⟩)
      ·exact h9z e
      ·omega
      ·rw [hx20] at e; cases e; cases h23
     refine vQ 1 rfl (nT (aj (aj (ah rfl (vQ 1 rfl (aa rfl (ji rfl rfl rfl (by kernel_rfl) rfl) rfl (vQ 1 rfl (nT (aP ?_)))))))))
     obtain ⟨LL1, hst, hLL1⟩ := hst.named
     refine bu [2, 3, 4, 5, 26, 27, 28, 29, 30, 31, 32, 33, 34, 35, 36, 37, 38, 39, 40, 41, 42, 43, 44, 45, 46, 47] (fun j t σ => ∃ (i m : Nat), j + i = b0 s ∧ oV s 0 = oV (s.drop i) m ∧ m < 10 ^ i ∧ i ≤ 4 ∧ t.get 4 = some (.int .i64 (.ofNat m)) ∧ t.get 26 = some (.int .i64 (.ofNat i)) ∧ St σ K LL1) (b0 s) ⟨0, 0, rfl, rfl, Nat.one_pos, Nat.zero_le _, rfl, rfl, hst⟩ ?_
     clear hst; intro j5 t σ ar hI; obtain ⟨i, m, hj, he, hm, hi4, hv4, hv26, hst⟩ := hI
     subst hLL1
     obtain ⟨o2, o3, o4, o5, o26, o27, o28, o29, o30, o31, o32, o33, o34, o35, o36, o37, ar⟩ := ar.HE rfl rfl rfl rfl
     replace ar := ar.dC rfl rfl; obtain ⟨o38, o39, o40, o41, o42, o43, o44, o45, ar⟩ := ar
     replace ar := ar.fD rfl; obtain ⟨o46, ar⟩ := ar
     replace ar := ar.fD rfl; obtain ⟨o47, ar⟩ := ar
     obtain rfl := ar.nil; clear ar
     replace hv4 : o4 = some _ := hv4; subst hv4
     replace hv26 : o26 = some _ := hv26; subst hv26
     refine aj (ah rfl (vQ 1 rfl (nT (aj (aE rfl (fun h27 => ?_) (fun h27 => ?_))))))
     ·refine aF (ad (aj (aP (aj (ah rfl (vQ 2 rfl (nT (aj (aj (ah rfl (vQ 2 rfl ?_)))))))))))
      obtain ⟨x31, hx31⟩ := cL (show i < s.length from by have := bW h27; rwa [bh] at this)
      refine aa rfl (ik (by kernel_rfl) rfl rfl hx31) rfl (vQ 1 rfl (aL rfl (al rfl) (fun _ => rfl) (fun h33 => ?_) (fun h33 => ?_)))
      ·refine vQ 5 rfl (nT (aC rfl (aj (ah rfl (vQ 2 rfl (nT (aB (au (aD (au (bx (aD (au (?_))))))))))))))
       exact bS rfl rfl rfl ⟨by rw [lj hne, he, pF hx31 (DH h33)]; rfl, hst⟩
      ·refine vQ 2 rfl (aa rfl (ik (by kernel_rfl) rfl rfl hx31) rfl (vQ 2 rfl (nT (aE rfl (fun h38 => ?_) (fun h38 => ?_)))))
       ·refine aj (ah rfl (vQ 2 rfl (nT (aB (au (aD (au (bx (aD (au (?_)))))))))))
        exact bS rfl rfl rfl ⟨by rw [lj hne, he, pF hx31 (Dd h38)]; rfl, hst⟩
       ·refine aF (ad (ah rfl (vQ 4 rfl (aa rfl (ik (by kernel_rfl) rfl rfl hx31) rfl (vQ 1 rfl ?_)))))
        refine aa rfl (fH (j := .u8) (k := .i64) (by kernel_rfl) (by kernel_rfl) (by kernel_rfl) rfl) rfl ?_
        refine vQ 2 rfl (af (aK (ad (ah rfl (vQ 2 rfl (af ?_))))))
        refine aQ ⟨j5 - 1, by have := bW h27; omega, (by (iterate 50 refine bq.put rfl ?_); exact bq.refl _ _), i + 1, 10 * m + (x31 - 48), by have := bW h27; omega, he.trans (rV hx31 (nC h33 h38)), by have := nC h33 h38; rw [Nat.pow_succ]; omega, by have := bW h27; have := hl4; omega, congrArg (fun z => some (AV.int .i64 z)) (CJ (nC h33 h38) (by have := zy i hi4; omega)), congrArg (fun z => some (AV.int .i64 z)) (bg (by omega)), hst⟩
     ·refine bz (aZ (bc (aU (ad (aj (ah rfl (vQ 3 rfl (nT (aB ?_)))))))))
      exact bS rfl rfl rfl ⟨by rw [lj hne, he, tA (by have := bn h27; rwa [bh] at this)]; rfl, hst⟩
   ·refine vQ 5 rfl (nT (aI rfl (aF (ad (aj (ah rfl ?_))))))
    have hl4 : b0 s ≤ 4 := bn (a := 4) h14
    have hne : ¬ (s.length = 0 ∨ 4 < s.length ∨ (1 < s.length ∧ s[0]? = some 48)) := by
     have hl4 := hl4; rw [bh] at hl4
     have h9z : s.length ≠ 0 := fun e => by rw [bh, e] at h9; cases h9
     have h18z : ¬ (1 < s.length) := by have := bn (a := 1) h18; rw [bh] at this; omega
     omega
    refine vQ 1 rfl (nT (aj (aj (ah rfl (vQ 1 rfl (aa rfl (ji rfl rfl rfl (by kernel_rfl) rfl) rfl (vQ 1 rfl (nT (aP ?_)))))))))
    obtain ⟨LL2, hst, hLL2⟩ := hst.named
    refine bu [2, 3, 4, 5, 26, 27, 28, 29, 30, 31, 32, 33, 34, 35, 36, 37, 38, 39, 40, 41, 42, 43, 44, 45, 46, 47] (fun j t σ => ∃ (i m : Nat), j + i = b0 s ∧ oV s 0 = oV (s.drop i) m ∧ m < 10 ^ i ∧ i ≤ 4 ∧ t.get 4 = some (.int .i64 (.ofNat m)) ∧ t.get 26 = some (.int .i64 (.ofNat i)) ∧ St σ K LL2) (b0 s) ⟨0, 0, rfl, rfl, Nat.one_pos, Nat.zero_le _, rfl, rfl, hst⟩ ?_
    clear hst; intro j5 t σ ar hI; obtain ⟨i, m, hj, he, hm, hi4, hv4, hv26, hst⟩ := hI
    subst hLL2
    obtain ⟨o2, o3, o4, o5, o26, o27, o28, o29, o30, o31, o32, o33, o34, o35, o36, o37, ar⟩ := ar.HE rfl rfl rfl rfl
    replace ar := ar.dC rfl rfl; obtain ⟨o38, o39, o40, o41, o42, o43, o44, o45, ar⟩ := ar
    replace ar := ar.fD rfl; obtain ⟨o46, ar⟩ := ar
    replace ar := ar.fD rfl; obtain ⟨o47, ar⟩ := ar
    obtain rfl := ar.nil; clear ar
    replace hv4 : o4 = some _ := hv4; subst hv4
    replace hv26 : o26 = some _ := hv26; subst hv26
    refine aj (ah rfl (vQ 1 rfl (nT (aj (aE rfl (fun h27 => ?_) (fun h27 => ?_))))))
    ·refine aF (ad (aj (aP (aj (ah rfl (vQ 2 rfl (nT (aj (aj (ah rfl (vQ 2 rfl ?_)))))))))))
     obtain ⟨x31, hx31⟩ := cL (show i < s.length from by have := bW h27; rwa [bh] at this)
     refine aa rfl (ik (by kernel_rfl) rfl rfl hx31) rfl (vQ 1 rfl (aL rfl (al rfl) (fun _ => rfl) (fun h33 => ?_) (fun h33 => ?_)))
     ·refine vQ 5 rfl (nT (aC rfl (aj (ah rfl (vQ 2 rfl (nT (aB (au (aD (au (bx (aD (au (?_))))))))))))))
      exact bS rfl rfl rfl ⟨by rw [lj hne, he, pF hx31 (DH h33)]; rfl, hst⟩
     ·refine vQ 2 rfl (aa rfl (ik (by kernel_rfl) rfl rfl hx31) rfl (vQ 2 rfl (nT (aE rfl (fun h38 => ?_) (fun h38 => ?_)))))
      ·refine aj (ah rfl (vQ 2 rfl (nT (aB (au (aD (au (bx (aD (au (?_)))))))))))
       exact bS rfl rfl rfl ⟨by rw [lj hne, he, pF hx31 (Dd h38)]; rfl, hst⟩
      ·refine aF (ad (ah rfl (vQ 4 rfl (aa rfl (ik (by kernel_rfl) rfl rfl hx31) rfl (vQ 1 rfl ?_)))))
       refine aa rfl (fH (j := .u8) (k := .i64) (by kernel_rfl) (by kernel_rfl) (by kernel_rfl) rfl) rfl ?_
       refine vQ 2 rfl (af (aK (ad (ah rfl (vQ 2 rfl (af ?_))))))
       refine aQ ⟨j5 - 1, by have := bW h27; omega, (by (iterate 50 refine bq.put rfl ?_); exact bq.refl _ _), i + 1, 10 * m + (x31 - 48), by have := bW h27; omega, he.trans (rV hx31 (nC h33 h38)), by have := nC h33 h38; rw [Nat.pow_succ]; omega, by have := bW h27; have := hl4; omega, congrArg (fun z => some (AV.int .i64 z)) (CJ (nC h33 h38) (by have := zy i hi4; omega)), congrArg (fun z => some (AV.int .i64 z)) (bg (by omega)), hst⟩
    ·refine bz (aZ (bc (aU (ad (aj (ah rfl (vQ 3 rfl (nT (aB ?_)))))))))
     exact bS rfl rfl rfl ⟨by rw [lj hne, he, tA (by have := bn h27; rwa [bh] at this)]; rfl, hst⟩
theorem EA {G : Cx} (hG : Plain G) {K : KP} : ∀ (k : Nat) (x : XE) (vs : List AV) (p : AV), fq K p vs → vs.length = 4 → gH K k x vs → ∀ (deep size : Int) (b1 e1 : Nat) (σ : av) (L : Own), St σ K ((b1, .row [.int .i64 size] e1 false) :: L) →
  a7 Tryz.prog G 164 [p, .int .i64 deep, .ptr b1 0] σ fun v σ' => ∃ s', v = .bool (oU k x deep size).isSome ∧ St σ' K ((b1, .row [.int .i64 s'] e1 false) :: L) ∧ ∀ s, oU k x deep size = some s → s' = s := by
 intro k
 induction k with
 | zero => intro x vs p _ _ h; cases x; exact h.elim
 | succ k ih =>
 intro x vs p hp hl h deep size b1 e1 σ L hst
 obtain ⟨op, num, name, kids⟩ := x
 obtain ⟨v, rfl, hk⟩ := h
 obtain ⟨F, hF⟩ : ∃ F : XE → Int → Option Int, F = fun x m => oU k x (wr .i64 (Int.add deep 1)) m := ⟨_, rfl⟩
 have hS : oU (k + 1) (.mk op num name kids) deep size = bif (bif cd 2000 (wr .i64 (Int.add size 1)) then true else cd 32 deep) then none else gT F kids (wr .i64 (Int.add size 1)) := by rw [hF]; rfl
 rw [hS]; clear hS
 refine a8 hG Tryz.func164 rfl (t := ((PT.leaf.put (some (p)) 0).put (some (.int .i64 deep)) 1).put (some (.ptr b1 0)) 2) (by rfl) (aj (ah rfl (vQ 1 rfl (nS rfl (vQ 1 rfl (aa rfl (dH rfl) rfl (aa rfl (Ia rfl (hst.get 0 rfl) rfl) rfl (vQ 1 rfl (aa rfl (dH rfl) rfl (bA hst rfl (Io rfl rfl rfl (hst.get 0 rfl) (m := 1) rfl rfl (cells' := [_]) rfl) rfl (fun σ hst => ?_)))))))))))
 refine nT (aj (aj (ah rfl (vQ 1 rfl (aa rfl (dH rfl) rfl (aa rfl (Ia rfl (hst.get 0 rfl) rfl) rfl (vQ 1 rfl (aL rfl (al rfl) (fun _ => rfl) (fun h17 => ?_) (fun h17 => ?_)))))))))
 ·refine vQ 3 rfl (nT (aC rfl (aj (ah rfl (vQ 1 rfl (nT (aB (au (?_)))))))))
  exact ay rfl rfl ⟨_, by rw [h17]; rfl, hst, fun s hs => by rw [h17] at hs; cases hs⟩
 ·refine vQ 3 rfl (nT (aE rfl (fun h20 => ?_) (fun h20 => ?_)))
  ·refine aj (ah rfl (vQ 1 rfl (nT (aB (au (?_))))))
   exact ay rfl rfl ⟨_, by rw [h17, h20]; rfl, hst, fun s hs => by rw [h17, h20] at hs; cases hs⟩
  ·refine aF (ad (aj (aj (ah rfl (vQ 1 rfl (aa rfl (cP hp rfl) rfl (bD hp rfl rfl rfl (k := 3) (by kernel_rfl) (lb rfl) (fun _ => rfl) (fun p23 hp23 => ?_))))))))
   refine aa rfl (Ih hst hp23 rfl rfl) rfl (aa rfl (H9 hk rfl rfl rfl (e := 82) rfl) rfl (vQ 1 rfl (nT (aP (bu [6, 7, 26, 27, 28, 29, 30, 31, 32, 33, 34, 35, 36, 37, 38, 39, 40] (fun j t σ => ∃ (i : Nat) (m : Int), j + i = kids.length ∧ gT F kids (wr .i64 (Int.add size 1)) = gT F (kids.drop i) m ∧ t.get 26 = some (.int .i64 (.ofNat i)) ∧ St σ K ((b1, .row [.int .i64 m] e1 false) :: L)) (kids.length) ⟨0, _, rfl, rfl, rfl, hst⟩ ?_)))))
   clear hst; intro j5 t σ ar hI; obtain ⟨i, m, hj, he, hv26, hst⟩ := hI
   obtain ⟨o6, o7, o26, o27, o28, o29, o30, o31, o32, o33, o34, o35, o36, o37, o38, o39, ar⟩ := ar.HE rfl rfl rfl rfl
   replace ar := ar.fD rfl; obtain ⟨o40, ar⟩ := ar
   obtain rfl := ar.nil; clear ar
   replace hv26 : o26 = some _ := hv26; subst hv26
   refine aj (ah rfl (vQ 1 rfl (nT (aj (aE rfl (fun h27 => ?_) (fun h27 => ?_))))))
   ·refine aF (ad (aj (aP (aj (ah rfl (vQ 2 rfl (nS rfl (vQ 1 rfl (aa rfl (cP hp rfl) rfl (bD hp rfl rfl rfl (k := 3) (by kernel_rfl) (lb rfl) (fun _ => rfl) (fun p31 hp31 => ?_)))))))))))
    refine aa rfl (Ih hst hp31 rfl rfl) rfl (vQ 1 rfl ?_)
    obtain ⟨x34, hx34, hi34⟩ := dv h27
    refine Ib (e := 82) (m := 4) hk hx34 rfl rfl rfl rfl (fun _ => rfl) (fun p34 vs34 hp34 hl34 hr34 => ?_)
    have hr34raw := hr34
    refine vQ 3 rfl (cJ rfl (It rfl rfl rfl) (fun _ => rfl) (ih x34 _ _ hp34 hl34 hr34raw _ _ _ _ _ _ hst) ?_)
    rintro _ σ ⟨m2, rfl, hst, hm2⟩
    refine aa rfl (dI rfl) rfl (nT (aE rfl (fun h39 => ?_) (fun h39 => ?_)))
    ·refine aj (ah rfl (vQ 1 rfl (nT (aB (aD (au (bx (aD (au (?_))))))))))
     exact ay rfl rfl ⟨_, by rw [h17, h20]; show _ = AV.bool (gT F kids _).isSome; rw [he, qD hx34 (by rw [hF]; exact bM h39)]; rfl, hst, fun s hs => by rw [h17, h20] at hs; rw [show gT F kids _ = none from by rw [he]; exact qD hx34 (by rw [hF]; exact bM h39)] at hs; cases hs⟩
    ·refine aF (aK (ad (ah rfl (vQ 2 rfl (af (aQ ⟨j5 - 1, by omega, (by (iterate 33 refine bq.put rfl ?_); exact bq.refl _ _), i + 1, m2, by omega, (by obtain ⟨s, hs⟩ := Option.isSome_iff_exists.1 (a6 h39); rw [he, xJ hx34 (show F x34 m = some s from by rw [hF]; exact hs), hm2 s hs]), congrArg (fun z => some (AV.int .i64 z)) (bg (by have := hk.bG; omega)), hst⟩))))))
   ·refine bz (aZ (bc (aU (ad (aj (ah rfl (vQ 1 rfl (nT (aB ?_)))))))))
    exact ay rfl rfl ⟨_, by rw [h17, h20]; show _ = AV.bool (gT F kids _).isSome; rw [he, sX (bn h27)]; rfl, hst, fun s hs => by rw [h17, h20] at hs; rw [show gT F kids _ = some m from by rw [he]; exact sX (bn h27)] at hs; cases hs; rfl⟩
theorem wY {G : Cx} (hG : Plain G) {K : KP} (aW : Int) : ∀ (k : Nat) (x : XE) (vs : List AV) (p : AV), fq K p vs → vs.length = 4 → gH K k x vs → ∀ (σ : av) (L : Own), St σ K L → a7 Tryz.prog G 218 [p, .int .i64 aW] σ fun v σ' => v = .bool (eO aW k x) ∧ St σ' K L := by
 intro k
 induction k with
 | zero => intro x vs p _ _ h; cases x; exact h.elim
 | succ k ih =>
 intro x vs p hp hl h σ L hst
 obtain ⟨op, num, name, kids⟩ := x
 obtain ⟨v, rfl, hk⟩ := h
 have hS : eO aW (k + 1) (.mk op num name kids) = bif bk op 1 then (bif bf (cd num 0) then (bif qq name [] then bk (.ofNat kids.length) 0 else false) else false) else
  bif bk op 2 then (bif (l7 name).isSome then (bif cd (Hf (l7 name)) aW then (bif bk num 0 then bk (.ofNat kids.length) 0 else false) else false) else false) else
  bif (bif (bif bk op 3 then true else bk op 4) then false else (bif cd op 5 then true else cd 16 op)) then false else
  bif (bif bf (bk num 0) then true else bif bf (qq name []) then true else bf (bk (.ofNat kids.length) (ep op))) then false else
  kids.all (eO aW k) := by show (bif bk op 1 then _ else bif bk op 2 then (match l7 name with | some n => _ | none => false) else _) = _; cases l7 name <;> rfl
 rw [hS]; clear hS
 have hE : qq name (List.map UInt8.toNat (ByteArray.mk #[]).data.toList) = qq name [] := rfl
 refine a8 hG Tryz.func218 rfl (t := (PT.leaf.put (some (p)) 0).put (some (.int .i64 aW)) 1) (by rfl) (aj (ah rfl (vQ 1 rfl (nS rfl (vQ 1 rfl (nT (aj (aP (aj ?_)))))))))
 refine ah rfl (vQ 1 rfl (aa rfl (cP hp rfl) rfl (bD hp rfl rfl rfl (k := 0) (by kernel_rfl) (lb rfl) (fun _ => rfl) (fun p12 hp12 => ?_))))
 refine aa rfl (Ih hst hp12 rfl rfl) rfl (vQ 2 rfl (nT (aE rfl (fun h9 => ?_) (fun h9 => ?_))))
 ·refine aj (ah rfl (vQ 1 rfl (aa rfl (cP hp rfl) rfl (bD hp rfl rfl rfl (k := 1) (by kernel_rfl) (lb rfl) (fun _ => rfl) (fun p17 hp17 => ?_)))))
  refine aa rfl (Ih hst hp17 rfl rfl) rfl (vQ 1 rfl (aL rfl (al rfl) (fun _ => rfl) (fun h20 => ?_) (fun h20 => ?_)))
  ·refine vQ 1 rfl (aa rfl (cP hp rfl) rfl (bD hp rfl rfl rfl (k := 2) (by kernel_rfl) (lb rfl) (fun _ => rfl) (fun p23 hp23 => ?_)))
   refine aa rfl (Ih hst hp23 rfl rfl) rfl (vQ 2 rfl (aL rfl (al rfl) (fun _ => rfl) (fun h27 => ?_) (fun h27 => ?_)))
   ·refine vQ 1 rfl (aa rfl (cP hp rfl) rfl (bD hp rfl rfl rfl (k := 3) (by kernel_rfl) (lb rfl) (fun _ => rfl) (fun p30 hp30 => ?_)))
    refine aa rfl (Ih hst hp30 rfl rfl) rfl (aa rfl (H9 hk rfl rfl rfl (e := 82) rfl) rfl (vQ 3 rfl (nT (aB (aD (au (?_)))))))
    exact ay rfl rfl ⟨congrArg AV.bool (by simp only [bf, ep]; (try rw [← hE]); simp only [h9, h20, h27, cond_true, cond_false]; (first | done | rfl)), hst⟩
   ·refine vQ 8 rfl (nT (aB (aD (au (?_)))))
    exact ay rfl rfl ⟨congrArg AV.bool (by simp only [bf, ep]; (try rw [← hE]); simp only [h9, h20, h27, cond_true, cond_false]; (first | done | rfl)), hst⟩
  ·refine vQ 15 rfl (nT (aB (aD (au (?_)))))
   exact ay rfl rfl ⟨congrArg AV.bool (by simp only [bf, ep]; (try rw [← hE]); simp only [h9, h20, cond_true, cond_false]; (first | done | rfl)), hst⟩
 ·refine aj (ah rfl (vQ 1 rfl (aa rfl (cP hp rfl) rfl (bD hp rfl rfl rfl (k := 0) (by kernel_rfl) (lb rfl) (fun _ => rfl) (fun p38 hp38 => ?_)))))
  refine aa rfl (Ih hst hp38 rfl rfl) rfl (vQ 2 rfl (nT (aE rfl (fun h35 => ?_) (fun h35 => ?_))))
  ·refine aj (ah rfl (vQ 1 rfl (aa rfl (cP hp rfl) rfl (bD hp rfl rfl rfl (k := 2) (by kernel_rfl) (lb rfl) (fun _ => rfl) (fun p44 hp44 => ?_)))))
   refine aa rfl (Ih hst hp44 rfl rfl) rfl (a9 rfl (It rfl rfl rfl) (fun _ => rfl) (yT hG _ hst) (fun σ hst => ?_))
   refine vQ 5 rfl (nS rfl (vQ 1 rfl (aL rfl (al rfl) (fun _ => rfl) (fun h50 => ?_) (fun h50 => ?_))))
   ·refine vQ 4 rfl (aL rfl (al rfl) (fun _ => rfl) (fun h55 => ?_) (fun h55 => ?_))
    ·refine vQ 1 rfl (aa rfl (cP hp rfl) rfl (bD hp rfl rfl rfl (k := 1) (by kernel_rfl) (lb rfl) (fun _ => rfl) (fun p58 hp58 => ?_)))
     refine aa rfl (Ih hst hp58 rfl rfl) rfl (vQ 2 rfl (aL rfl (al rfl) (fun _ => rfl) (fun h62 => ?_) (fun h62 => ?_)))
     ·refine vQ 1 rfl (aa rfl (cP hp rfl) rfl (bD hp rfl rfl rfl (k := 3) (by kernel_rfl) (lb rfl) (fun _ => rfl) (fun p65 hp65 => ?_)))
      refine aa rfl (Ih hst hp65 rfl rfl) rfl (aa rfl (H9 hk rfl rfl rfl (e := 82) rfl) rfl (vQ 3 rfl (nT (aB (aD (au (?_)))))))
      exact ay rfl rfl ⟨congrArg AV.bool (by simp only [bf, ep]; (try rw [← hE]); simp only [h9, h35, h50, h55, h62, cond_true, cond_false]; (first | done | rfl)), hst⟩
     ·refine vQ 8 rfl (nT (aB (aD (au (?_)))))
      exact ay rfl rfl ⟨congrArg AV.bool (by simp only [bf, ep]; (try rw [← hE]); simp only [h9, h35, h50, h55, h62, cond_true, cond_false]; (first | done | rfl)), hst⟩
    ·refine vQ 15 rfl (nT (aB (aD (au (?_)))))
     exact ay rfl rfl ⟨congrArg AV.bool (by simp only [bf, ep]; (try rw [← hE]); simp only [h9, h35, h50, h55, cond_true, cond_false]; (first | done | rfl)), hst⟩
   ·refine vQ 20 rfl (nT (aB (aD (au (?_)))))
    exact ay rfl rfl ⟨congrArg AV.bool (by simp only [bf, ep]; (try rw [← hE]); simp only [h9, h35, h50, cond_true, cond_false]; (first | done | rfl)), hst⟩
  ·refine aj (ah rfl (vQ 1 rfl (aa rfl (cP hp rfl) rfl (bD hp rfl rfl rfl (k := 0) (by kernel_rfl) (lb rfl) (fun _ => rfl) (fun p73 hp73 => ?_)))))
   refine aa rfl (Ih hst hp73 rfl rfl) rfl (vQ 1 rfl (aL rfl (al rfl) (fun _ => rfl) (fun h76 => ?_) (fun h76 => ?_)))
   ·refine vQ 7 rfl (nT (aC rfl (ah rfl (vQ 1 rfl (af (aK (ad (aj (aj (ah rfl (vQ 1 rfl (aa rfl (cP hp rfl) rfl ?_))))))))))))
    refine bD hp rfl rfl rfl (k := 1) (by kernel_rfl) (lb rfl) (fun _ => rfl) (fun p98 hp98 => ?_)
    refine aa rfl (Ih hst hp98 rfl rfl) rfl (vQ 1 rfl (aL rfl (al rfl) (fun _ => rfl) (fun h101 => ?_) (fun h101 => ?_)))
    ·refine vQ 15 rfl (nT (aC rfl (aj (ah rfl (vQ 1 rfl (nT (aB (au (?_)))))))))
     exact ay rfl rfl ⟨congrArg AV.bool (by simp only [bf, ep]; (try rw [← hE]); simp only [h9, h35, h76, h101, cond_true, cond_false]; (first | done | rfl)), hst⟩
    ·refine vQ 1 rfl (aa rfl (cP hp rfl) rfl (bD hp rfl rfl rfl (k := 2) (by kernel_rfl) (lb rfl) (fun _ => rfl) (fun p104 hp104 => ?_)))
     refine aa rfl (Ih hst hp104 rfl rfl) rfl (vQ 2 rfl (aL rfl (al rfl) (fun _ => rfl) (fun h108 => ?_) (fun h108 => ?_)))
     ·refine vQ 8 rfl (nT (aC rfl (aj (ah rfl (vQ 1 rfl (nT (aB (au (?_)))))))))
      exact ay rfl rfl ⟨congrArg AV.bool (by simp only [bf, ep]; (try rw [← hE]); simp only [h9, h35, h76, h101, h108, cond_true, cond_false]; (first | done | rfl)), hst⟩
     ·refine vQ 1 rfl (aa rfl (cP hp rfl) rfl (bD hp rfl rfl rfl (k := 3) (by kernel_rfl) (lb rfl) (fun _ => rfl) (fun p111 hp111 => ?_)))
      refine aa rfl (Ih hst hp111 rfl rfl) rfl (aa rfl (H9 hk rfl rfl rfl (e := 82) rfl) rfl (vQ 3 rfl (nT (aE rfl (fun h116 => ?_) (fun h116 => ?_)))))
      ·refine aj (ah rfl (vQ 1 rfl (nT (aB (au (?_))))))
       exact ay rfl rfl ⟨congrArg AV.bool (by simp only [bf, ep]; (try rw [← hE]); simp only [h9, h35, h76, h101, h108, h116, cond_true, cond_false]; (first | done | rfl)), hst⟩
      ·refine aF (ad (aj (aj (ah rfl (vQ 1 rfl (aa rfl (cP hp rfl) rfl (bD hp rfl rfl rfl (k := 3) (by kernel_rfl) (lb rfl) (fun _ => rfl) (fun p119 hp119 => ?_))))))))
       refine aa rfl (Ih hst hp119 rfl rfl) rfl (aa rfl (H9 hk rfl rfl rfl (e := 82) rfl) rfl (vQ 1 rfl (nT (aP ?_))))
       obtain ⟨LL1, hst, hLL1⟩ := hst.named
       refine bu [4, 8, 122, 123, 124, 125, 126, 127, 128, 129, 130, 131, 132, 133, 134] (fun j t σ => ∃ (i : Nat), j + i = kids.length ∧ (kids.take i).all (eO aW k) = true ∧ t.get 122 = some (.int .i64 (.ofNat i)) ∧ St σ K LL1) (kids.length) ⟨0, rfl, rfl, rfl, hst⟩ ?_
       clear hst; intro j14 t σ ar hI; obtain ⟨i, hj, ha, hv122, hst⟩ := hI
       subst hLL1
       replace ar := ar.dC rfl rfl; obtain ⟨o4, o8, o122, o123, o124, o125, o126, o127, ar⟩ := ar
       replace ar := ar.rp rfl; obtain ⟨o128, o129, o130, o131, ar⟩ := ar
       replace ar := ar.fD rfl; obtain ⟨o132, ar⟩ := ar
       replace ar := ar.fD rfl; obtain ⟨o133, ar⟩ := ar
       replace ar := ar.fD rfl; obtain ⟨o134, ar⟩ := ar
       obtain rfl := ar.nil; clear ar
       replace hv122 : o122 = some _ := hv122; subst hv122
       refine aj (ah rfl (vQ 1 rfl (nT (aj (aE rfl (fun h123 => ?_) (fun h123 => ?_))))))
       ·refine aF (ad (aj (aP (aj (ah rfl (vQ 2 rfl (nS rfl (vQ 1 rfl (aa rfl (cP hp rfl) rfl (bD hp rfl rfl rfl (k := 3) (by kernel_rfl) (lb rfl) (fun _ => rfl) (fun p127 hp127 => ?_)))))))))))
        refine aa rfl (Ih hst hp127 rfl rfl) rfl (vQ 1 rfl ?_)
        obtain ⟨x130, hx130, hi130⟩ := dv h123
        refine Ib (e := 82) (m := 4) hk hx130 rfl rfl rfl rfl (fun _ => rfl) (fun p130 vs130 hp130 hl130 hr130 => ?_)
        have hr130raw := hr130
        refine vQ 1 rfl (a9 rfl (It rfl rfl rfl) (fun _ => rfl) (ih x130 _ _ hp130 hl130 hr130raw _ _ hst) (fun σ hst => ?_))
        refine aa rfl (dI rfl) rfl (nT (aE rfl (fun h133 => ?_) (fun h133 => ?_)))
        ·refine aj (ah rfl (vQ 1 rfl (nT (aB (aD (au (bx (aD (au (?_))))))))))
         exact ay rfl rfl ⟨congrArg AV.bool (by rw [ju hx130 (bM h133)]; simp only [bf, ep]; (try rw [← hE]); simp only [h9, h35, h76, h101, h108, h116, cond_true, cond_false]; (first | done | rfl)), hst⟩
        ·refine aF (aK (ad (ah rfl (vQ 2 rfl (af (aQ ⟨j14 - 1, by omega, (by (iterate 29 refine bq.put rfl ?_); exact bq.refl _ _), i + 1, by omega, fL ha hx130 (a6 h133), congrArg (fun z => some (AV.int .i64 z)) (bg (by have := hk.bG; omega)), hst⟩))))))
       ·refine bz (aZ (bc (aU (ad (aj (ah rfl (vQ 1 rfl (nT (aB ?_)))))))))
        exact ay rfl rfl ⟨congrArg AV.bool (by rw [ec ha (bn h123)]; simp only [bf, ep]; (try rw [← hE]); simp only [h9, h35, h76, h101, h108, h116, cond_true, cond_false]; (first | done | rfl)), hst⟩
   ·refine vQ 1 rfl (aa rfl (cP hp rfl) rfl (bD hp rfl rfl rfl (k := 0) (by kernel_rfl) (lb rfl) (fun _ => rfl) (fun p79 hp79 => ?_)))
    refine aa rfl (Ih hst hp79 rfl rfl) rfl (vQ 3 rfl (nT (aE rfl (fun h70 => ?_) (fun h70 => ?_))))
    ·refine ah rfl (vQ 1 rfl (af (aK (ad (aj (aj (ah rfl (vQ 1 rfl (aa rfl (cP hp rfl) rfl (bD hp rfl rfl rfl (k := 1) (by kernel_rfl) (lb rfl) (fun _ => rfl) (fun p98 hp98 => ?_)))))))))))
     refine aa rfl (Ih hst hp98 rfl rfl) rfl (vQ 1 rfl (aL rfl (al rfl) (fun _ => rfl) (fun h101 => ?_) (fun h101 => ?_)))
     ·refine vQ 15 rfl (nT (aC rfl (aj (ah rfl (vQ 1 rfl (nT (aB (au (?_)))))))))
      exact ay rfl rfl ⟨congrArg AV.bool (by simp only [bf, ep]; (try rw [← hE]); simp only [h9, h35, h76, h70, h101, cond_true, cond_false]; (first | done | rfl)), hst⟩
     ·refine vQ 1 rfl (aa rfl (cP hp rfl) rfl (bD hp rfl rfl rfl (k := 2) (by kernel_rfl) (lb rfl) (fun _ => rfl) (fun p104 hp104 => ?_)))
      refine aa rfl (Ih hst hp104 rfl rfl) rfl (vQ 2 rfl (aL rfl (al rfl) (fun _ => rfl) (fun h108 => ?_) (fun h108 => ?_)))
      ·refine vQ 8 rfl (nT (aC rfl (aj (ah rfl (vQ 1 rfl (nT (aB (au (?_)))))))))
       exact ay rfl rfl ⟨congrArg AV.bool (by simp only [bf, ep]; (try rw [← hE]); simp only [h9, h35, h76, h70, h101, h108, cond_true, cond_false]; (first | done | rfl)), hst⟩
      ·refine vQ 1 rfl (aa rfl (cP hp rfl) rfl (bD hp rfl rfl rfl (k := 3) (by kernel_rfl) (lb rfl) (fun _ => rfl) (fun p111 hp111 => ?_)))
       refine aa rfl (Ih hst hp111 rfl rfl) rfl (aa rfl (H9 hk rfl rfl rfl (e := 82) rfl) rfl (vQ 3 rfl (nT (aE rfl (fun h116 => ?_) (fun h116 => ?_)))))
       ·refine aj (ah rfl (vQ 1 rfl (nT (aB (au (?_))))))
        exact ay rfl rfl ⟨congrArg AV.bool (by simp only [bf, ep]; (try rw [← hE]); simp only [h9, h35, h76, h70, h101, h108, h116, cond_true, cond_false]; (first | done | rfl)), hst⟩
       ·refine aF (ad (aj (aj (ah rfl (vQ 1 rfl (aa rfl (cP hp rfl) rfl (bD hp rfl rfl rfl (k := 3) (by kernel_rfl) (lb rfl) (fun _ => rfl) (fun p119 hp119 => ?_))))))))
        refine aa rfl (Ih hst hp119 rfl rfl) rfl (aa rfl (H9 hk rfl rfl rfl (e := 82) rfl) rfl (vQ 1 rfl (nT (aP ?_))))
        obtain ⟨LL2, hst, hLL2⟩ := hst.named
        refine bu [4, 8, 122, 123, 124, 125, 126, 127, 128, 129, 130, 131, 132, 133, 134] (fun j t σ => ∃ (i : Nat), j + i = kids.length ∧ (kids.take i).all (eO aW k) = true ∧ t.get 122 = some (.int .i64 (.ofNat i)) ∧ St σ K LL2) (kids.length) ⟨0, rfl, rfl, rfl, hst⟩ ?_
        clear hst; intro j14 t σ ar hI; obtain ⟨i, hj, ha, hv122, hst⟩ := hI
        subst hLL2
        replace ar := ar.dC rfl rfl; obtain ⟨o4, o8, o122, o123, o124, o125, o126, o127, ar⟩ := ar
        replace ar := ar.rp rfl; obtain ⟨o128, o129, o130, o131, ar⟩ := ar
        replace ar := ar.fD rfl; obtain ⟨o132, ar⟩ := ar
        replace ar := ar.fD rfl; obtain ⟨o133, ar⟩ := ar
        replace ar := ar.fD rfl; obtain ⟨o134, ar⟩ := ar
        obtain rfl := ar.nil; clear ar
        replace hv122 : o122 = some _ := hv122; subst hv122
        refine aj (ah rfl (vQ 1 rfl (nT (aj (aE rfl (fun h123 => ?_) (fun h123 => ?_))))))
        ·refine aF (ad (aj (aP (aj (ah rfl (vQ 2 rfl (nS rfl (vQ 1 rfl (aa rfl (cP hp rfl) rfl (bD hp rfl rfl rfl (k := 3) (by kernel_rfl) (lb rfl) (fun _ => rfl) (fun p127 hp127 => ?_)))))))))))
         refine aa rfl (Ih hst hp127 rfl rfl) rfl (vQ 1 rfl ?_)
         obtain ⟨x130, hx130, hi130⟩ := dv h123
         refine Ib (e := 82) (m := 4) hk hx130 rfl rfl rfl rfl (fun _ => rfl) (fun p130 vs130 hp130 hl130 hr130 => ?_)
         have hr130raw := hr130
         refine vQ 1 rfl (a9 rfl (It rfl rfl rfl) (fun _ => rfl) (ih x130 _ _ hp130 hl130 hr130raw _ _ hst) (fun σ hst => ?_))
         refine aa rfl (dI rfl) rfl (nT (aE rfl (fun h133 => ?_) (fun h133 => ?_)))
         ·refine aj (ah rfl (vQ 1 rfl (nT (aB (aD (au (bx (aD (au (?_))))))))))
          exact ay rfl rfl ⟨congrArg AV.bool (by rw [ju hx130 (bM h133)]; simp only [bf, ep]; (try rw [← hE]); simp only [h9, h35, h76, h70, h101, h108, h116, cond_true, cond_false]; (first | done | rfl)), hst⟩
         ·refine aF (aK (ad (ah rfl (vQ 2 rfl (af (aQ ⟨j14 - 1, by omega, (by (iterate 29 refine bq.put rfl ?_); exact bq.refl _ _), i + 1, by omega, fL ha hx130 (a6 h133), congrArg (fun z => some (AV.int .i64 z)) (bg (by have := hk.bG; omega)), hst⟩))))))
        ·refine bz (aZ (bc (aU (ad (aj (ah rfl (vQ 1 rfl (nT (aB ?_)))))))))
         exact ay rfl rfl ⟨congrArg AV.bool (by rw [ec ha (bn h123)]; simp only [bf, ep]; (try rw [← hE]); simp only [h9, h35, h76, h70, h101, h108, h116, cond_true, cond_false]; (first | done | rfl)), hst⟩
    ·refine aj (ah rfl (vQ 1 rfl (aa rfl (cP hp rfl) rfl (bD hp rfl rfl rfl (k := 0) (by kernel_rfl) (lb rfl) (fun _ => rfl) (fun p86 hp86 => ?_)))))
     refine aa rfl (Ih hst hp86 rfl rfl) rfl (vQ 1 rfl (aL rfl (al rfl) (fun _ => rfl) (fun h89 => ?_) (fun h89 => ?_)))
     ·refine vQ 7 rfl (nT (aC rfl (aj (ah rfl (vQ 1 rfl (nT (aB (aD (au (?_))))))))))
      exact ay rfl rfl ⟨congrArg AV.bool (by simp only [bf, ep]; (try rw [← hE]); simp only [h9, h35, h76, h70, h89, cond_true, cond_false]; (first | done | rfl)), hst⟩
     ·refine vQ 1 rfl (aa rfl (cP hp rfl) rfl (bD hp rfl rfl rfl (k := 0) (by kernel_rfl) (lb rfl) (fun _ => rfl) (fun p92 hp92 => ?_)))
      refine aa rfl (Ih hst hp92 rfl rfl) rfl (vQ 3 rfl (nT (aE rfl (fun h83 => ?_) (fun h83 => ?_))))
      ·refine aj (ah rfl (vQ 1 rfl (nT (aB (aD (au (?_)))))))
       exact ay rfl rfl ⟨congrArg AV.bool (by simp only [bf, ep]; (try rw [← hE]); simp only [h9, h35, h76, h70, h89, h83, cond_true, cond_false]; (first | done | rfl)), hst⟩
      ·refine aF (aK (ad (aj (aj (ah rfl (vQ 1 rfl (aa rfl (cP hp rfl) rfl (bD hp rfl rfl rfl (k := 1) (by kernel_rfl) (lb rfl) (fun _ => rfl) (fun p98 hp98 => ?_)))))))))
       refine aa rfl (Ih hst hp98 rfl rfl) rfl (vQ 1 rfl (aL rfl (al rfl) (fun _ => rfl) (fun h101 => ?_) (fun h101 => ?_)))
       ·refine vQ 15 rfl (nT (aC rfl (aj (ah rfl (vQ 1 rfl (nT (aB (au (?_)))))))))
        exact ay rfl rfl ⟨congrArg AV.bool (by simp only [bf, ep]; (try rw [← hE]); simp only [h9, h35, h76, h70, h89, h83, h101, cond_true, cond_false]; (first | done | rfl)), hst⟩
       ·refine vQ 1 rfl (aa rfl (cP hp rfl) rfl (bD hp rfl rfl rfl (k := 2) (by kernel_rfl) (lb rfl) (fun _ => rfl) (fun p104 hp104 => ?_)))
        refine aa rfl (Ih hst hp104 rfl rfl) rfl (vQ 2 rfl (aL rfl (al rfl) (fun _ => rfl) (fun h108 => ?_) (fun h108 => ?_)))
        ·refine vQ 8 rfl (nT (aC rfl (aj (ah rfl (vQ 1 rfl (nT (aB (au (?_)))))))))
         exact ay rfl rfl ⟨congrArg AV.bool (by simp only [bf, ep]; (try rw [← hE]); simp only [h9, h35, h76, h70, h89, h83, h101, h108, cond_true, cond_false]; (first | done | rfl)), hst⟩
        ·refine vQ 1 rfl (aa rfl (cP hp rfl) rfl (bD hp rfl rfl rfl (k := 3) (by kernel_rfl) (lb rfl) (fun _ => rfl) (fun p111 hp111 => ?_)))
         refine aa rfl (Ih hst hp111 rfl rfl) rfl (aa rfl (H9 hk rfl rfl rfl (e := 82) rfl) rfl (vQ 3 rfl (nT (aE rfl (fun h116 => ?_) (fun h116 => ?_)))))
         ·refine aj (ah rfl (vQ 1 rfl (nT (aB (au (?_))))))
          exact ay rfl rfl ⟨congrArg AV.bool (by simp only [bf, ep]; (try rw [← hE]); simp only [h9, h35, h76, h70, h89, h83, h101, h108, h116, cond_true, cond_false]; (first | done | rfl)), hst⟩
         ·refine aF (ad (aj (aj (ah rfl (vQ 1 rfl (aa rfl (cP hp rfl) rfl (bD hp rfl rfl rfl (k := 3) (by kernel_rfl) (lb rfl) (fun _ => rfl) (fun p119 hp119 => ?_))))))))
          refine aa rfl (Ih hst hp119 rfl rfl) rfl (aa rfl (H9 hk rfl rfl rfl (e := 82) rfl) rfl (vQ 1 rfl (nT (aP ?_))))
          obtain ⟨LL3, hst, hLL3⟩ := hst.named
          refine bu [4, 8, 122, 123, 124, 125, 126, 127, 128, 129, 130, 131, 132, 133, 134] (fun j t σ => ∃ (i : Nat), j + i = kids.length ∧ (kids.take i).all (eO aW k) = true ∧ t.get 122 = some (.int .i64 (.ofNat i)) ∧ St σ K LL3) (kids.length) ⟨0, rfl, rfl, rfl, hst⟩ ?_
          clear hst; intro j14 t σ ar hI; obtain ⟨i, hj, ha, hv122, hst⟩ := hI
          subst hLL3
          replace ar := ar.dC rfl rfl; obtain ⟨o4, o8, o122, o123, o124, o125, o126, o127, ar⟩ := ar
          replace ar := ar.rp rfl; obtain ⟨o128, o129, o130, o131, ar⟩ := ar
          replace ar := ar.fD rfl; obtain ⟨o132, ar⟩ := ar
          replace ar := ar.fD rfl; obtain ⟨o133, ar⟩ := ar
          replace ar := ar.fD rfl; obtain ⟨o134, ar⟩ := ar
          obtain rfl := ar.nil; clear ar
          replace hv122 : o122 = some _ := hv122; subst hv122
          refine aj (ah rfl (vQ 1 rfl (nT (aj (aE rfl (fun h123 => ?_) (fun h123 => ?_))))))
          ·refine aF (ad (aj (aP (aj (ah rfl (vQ 2 rfl (nS rfl (vQ 1 rfl (aa rfl (cP hp rfl) rfl (bD hp rfl rfl rfl (k := 3) (by kernel_rfl) (lb rfl) (fun _ => rfl) (fun p127 hp127 => ?_)))))))))))
           refine aa rfl (Ih hst hp127 rfl rfl) rfl (vQ 1 rfl ?_)
           obtain ⟨x130, hx130, hi130⟩ := dv h123
           refine Ib (e := 82) (m := 4) hk hx130 rfl rfl rfl rfl (fun _ => rfl) (fun p130 vs130 hp130 hl130 hr130 => ?_)
           have hr130raw := hr130
           refine vQ 1 rfl (a9 rfl (It rfl rfl rfl) (fun _ => rfl) (ih x130 _ _ hp130 hl130 hr130raw _ _ hst) (fun σ hst => ?_))
           refine aa rfl (dI rfl) rfl (nT (aE rfl (fun h133 => ?_) (fun h133 => ?_)))
           ·refine aj (ah rfl (vQ 1 rfl (nT (aB (aD (au (bx (aD (au (?_))))))))))
            exact ay rfl rfl ⟨congrArg AV.bool (by rw [ju hx130 (bM h133)]; simp only [bf, ep]; (try rw [← hE]); simp only [h9, h35, h76, h70, h89, h83, h101, h108, h116, cond_true, cond_false]; (first | done | rfl)), hst⟩
           ·refine aF (aK (ad (ah rfl (vQ 2 rfl (af (aQ ⟨j14 - 1, by omega, (by (iterate 29 refine bq.put rfl ?_); exact bq.refl _ _), i + 1, by omega, fL ha hx130 (a6 h133), congrArg (fun z => some (AV.int .i64 z)) (bg (by have := hk.bG; omega)), hst⟩))))))
          ·refine bz (aZ (bc (aU (ad (aj (ah rfl (vQ 1 rfl (nT (aB ?_)))))))))
           exact ay rfl rfl ⟨congrArg AV.bool (by rw [ec ha (bn h123)]; simp only [bf, ep]; (try rw [← hE]); simp only [h9, h35, h76, h70, h89, h83, h101, h108, h116, cond_true, cond_false]; (first | done | rfl)), hst⟩
def yY (h : iZ) : List AV := [.bool h.tN, .bool h.loc, .bool h.order, .bool h.to, .int .i64 (.ofNat h.exprs)]
def vW : List AV := iY.flatMap yY
structure kP (G : Cx) (K : KP) : Prop where
 gl : Nat.ble 1 G.gl = true
 sh : ∃ e ro, K (posOf 0) (.row vW e ro)
theorem kP.mono {G : Cx} {K K' : KP} (h : kP G K) (hk : KP.le K K') : kP G K' := ⟨h.gl, let ⟨e, ro, hh⟩ := h.sh; ⟨e, ro, hk _ _ hh⟩⟩
theorem jR {b c : Bool} (h : (!b) = c) : (bif b then false else true) = c := by cases b <;> exact h
theorem GU {n : Nat} {h : iZ} (hh : iY[n]? = some h) : List.take 5 (List.drop (0 + n * 5) vW) = yY h := by
 have hn : n < 14 := (List.getElem?_eq_some_iff.1 hh).1
 match n, hn with
 | 0, _ | 1, _ | 2, _ | 3, _ | 4, _ | 5, _ | 6, _ | 7, _ | 8, _ | 9, _ | 10, _ | 11, _ | 12, _ | 13, _ => cases hh; rfl
theorem GW {x : Int} (h1 : cd x 1 = false) (h2 : cd 13 x = false) : ∃ (n : Nat) (h : iZ), x = .ofNat n ∧ n < 14 ∧ iY[n]? = some h := by
 rw [ek, decide_eq_false_iff_not] at h1 h2
 refine ⟨x.toNat, iY[x.toNat]'(by show x.toNat < 14; omega), by show x = ((x.toNat : Nat) : Int); omega, by omega, List.getElem?_eq_getElem _⟩
theorem Bu {aW nins : Int} {k n : Nat} {x : XI} {h : iZ} (h1 : cd x.kind 1 = false) (h2 : cd 13 x.kind = false) (hn : x.kind = .ofNat n) (hh : iY[n]? = some h) : fG aW nins k x = fM aW nins k x h := by
 unfold fG
 rw [h1, h2, hn]
 show (match iY[n]? with | some h => _ | none => false) = _
 rw [hh]
theorem Eg {G : Cx} {t : PT AV} {g : Nat} (h : Nat.ble (Nat.succ g) G.gl = true) : aX G t (.global g) = some (.ptr (posOf g) 0) := by
 show (bif Nat.ble (Nat.succ g) G.gl then _ else _) = _
 rw [h]; rfl
theorem Fh {G : Cx} (hG : Plain G) {K : KP} (hgl : kP G K) {k : Nat} {c : XC} {x : XI} {v : AV} {vs : List AV} {p : AV} (hi : bC K 6 (fR K k) c.ins v) (hp : fq K p vs) (h : fR K k x vs) {σ : av} {L : Own} (hst : St σ K L) :
  a7 Tryz.prog G 165 [.agg [.int .i64 c.aW, v], p] σ fun v σ' => v = .bool (fG c.aW (.ofNat c.ins.length) k x) ∧ St σ' K L := by
 obtain ⟨w, rfl, hk⟩ := h
 refine a8 hG Tryz.func165 rfl (t := (PT.leaf.put (some (.agg [.int .i64 c.aW, v])) 0).put (some (p)) 1) (by rfl) (aj (ah rfl (bp hst rfl (cU rfl rfl) (fun _ => rfl) (fun σ b1 hst => ?_))))
 refine vQ 1 rfl (nT (aj (aj (ah rfl (vQ 1 rfl (aa rfl (cP hp rfl) rfl (bD hp rfl rfl rfl (k := 0) (by kernel_rfl) (lb rfl) (fun _ => rfl) (fun p9 hp9 => ?_))))))))
 refine aa rfl (Ih hst hp9 rfl rfl) rfl (vQ 1 rfl (aL rfl (al rfl) (fun _ => rfl) (fun h12 => ?_) (fun h12 => ?_)))
 ·refine vQ 6 rfl (nT (aC rfl (aj (ah rfl (vQ 1 rfl (nT (aB (au (?_)))))))))
  exact ay rfl rfl ⟨congrArg AV.bool (by unfold fG; rw [h12]; rfl), hst.pop⟩
 ·refine vQ 1 rfl (aa rfl (cP hp rfl) rfl (bD hp rfl rfl rfl (k := 0) (by kernel_rfl) (lb rfl) (fun _ => rfl) (fun p15 hp15 => ?_)))
  refine aa rfl (Ih hst hp15 rfl rfl) rfl (vQ 2 rfl (nT (aE rfl (fun h18 => ?_) (fun h18 => ?_))))
  ·refine aj (ah rfl (vQ 1 rfl (nT (aB (au (?_))))))
   exact ay rfl rfl ⟨congrArg AV.bool (by unfold fG; rw [h12, show cd 13 x.kind = true from h18]; rfl), hst.pop⟩
  ·have h17x : cd 13 x.kind = false := h18
   refine aF (ad (aj (ah rfl (vQ 1 rfl (aa rfl (cP hp rfl) rfl (bD hp rfl rfl rfl (k := 0) (by kernel_rfl) (lb rfl) (fun _ => rfl) (fun p21 hp21 => ?_)))))))
   refine aa rfl (Ih hst hp21 rfl rfl) rfl ?_
   obtain ⟨kn, sh, hkn, hkl, hsh⟩ := GW h12 h17x
   obtain ⟨eg, rog, hrow⟩ := hgl.sh
   have hRX := Bu (aW := c.aW) (nins := .ofNat c.ins.length) (k := k) h12 h17x hkn hsh
   refine aa rfl (pB (n := 14) (e := 264) (m := 5) (by kernel_rfl) (by kernel_rfl) (Eg hgl.gl) (show _ = some (AV.int .i64 (.ofNat kn)) from congrArg (fun z => some (AV.int .i64 z)) hkn) hkl) rfl (aa rfl (aO rfl (hst.dR hrow) (n := 5) (vs := yY sh) (by kernel_rfl) (by show 0 + kn * 5 + 5 ≤ 70; omega) (GU hsh)) rfl (bp hst rfl (Ix (cs := [.bool false, .bool false, .bool false, .bool false, .int .i64 0])) (fun _ => rfl) (fun σ b2 hst => ?_)))
   refine bA hst rfl (Io rfl rfl rfl (hst.get 0 rfl) (m := 5) rfl rfl (cells' := [_, _, _, _, _]) rfl) rfl (fun σ hst => ?_)
   refine nT (aj (aj (aR (l := [(0, []), (1, []), (2, []), (3, []), (4, []), (5, []), (6, []), (7, []), (8, []), (9, []), (10, []), (11, []), (12, []), (13, []), (14, []), (15, []), (16, []), (17, []), (18, []), (19, []), (20, []), (21, []), (22, []), (23, []), (24, []), (25, []), (26, []), (27, []), (28, []), (29, []), (30, []), (31, []), (32, []), (33, []), (34, []), (35, []), (36, []), (37, []), (38, []), (39, []), (40, []), (41, []), (42, [])]) (by kernel_rfl) (by kernel_rfl) (wQ 1 rfl (an rfl rfl (cP hp rfl) rfl (jq hp rfl rfl rfl rfl (k := 1) (by kernel_rfl) (lb rfl) (fun _ => rfl) (fun p27 hp27 => ?_)))))))
   refine an rfl rfl (Ih hst hp27 rfl rfl) rfl (an rfl rfl (Iz 0 rfl) rfl (an rfl rfl (Ia rfl (hst.get 1 rfl) rfl) rfl (an rfl rfl (Iz 0 rfl) rfl (an rfl rfl (Ia rfl (hst.get 0 rfl) rfl) rfl (dt rfl rfl (It rfl rfl rfl) (fun _ => rfl) (pU hG _ _ _ _ hst) (fun σ hst => ?_))))))
   refine ⟨aY, ?_⟩
   refine an rfl rfl (dI rfl) rfl (rD rfl rfl (al rfl) (fun _ => rfl) (fun h35 => ?_) (fun h35 => ?_))
   ·refine wQ 32 rfl (ba (ad (aC rfl (aj (ah rfl (vQ 1 rfl (nT (aB (au (?_))))))))))
    exact ay rfl rfl ⟨congrArg AV.bool (by rw [hRX]; unfold fM; simp only [bf]; simp only [jR h35, cond_true, cond_false]; (first | done | rfl)), hst.pop.pop⟩
   ·refine wQ 1 rfl (an rfl rfl (cP hp rfl) rfl (jq hp rfl rfl rfl rfl (k := 2) (by kernel_rfl) (lb rfl) (fun _ => rfl) (fun p38 hp38 => ?_)))
    refine an rfl rfl (Ih hst hp38 rfl rfl) rfl (an rfl rfl (Iz 1 rfl) rfl (an rfl rfl (Ia rfl (hst.get 0 rfl) rfl) rfl (dt rfl rfl (It rfl rfl rfl) (fun _ => rfl) (pU hG _ _ _ _ hst) (fun σ hst => ?_))))
    refine ⟨aY, ?_⟩
    refine an rfl rfl (dI rfl) rfl (wQ 1 rfl (rD rfl rfl (al rfl) (fun _ => rfl) (fun h45 => ?_) (fun h45 => ?_)))
    ·refine wQ 22 rfl (ba (ad (aC rfl (aj (ah rfl (vQ 1 rfl (nT (aB (au (?_))))))))))
     exact ay rfl rfl ⟨congrArg AV.bool (by rw [hRX]; unfold fM; simp only [bf]; simp only [jR h35, jR h45, cond_true, cond_false]; (first | done | rfl)), hst.pop.pop⟩
    ·refine wQ 1 rfl (an rfl rfl (cP hp rfl) rfl (jq hp rfl rfl rfl rfl (k := 3) (by kernel_rfl) (lb rfl) (fun _ => rfl) (fun p48 hp48 => ?_)))
     refine an rfl rfl (Ih hst hp48 rfl rfl) rfl (an rfl rfl (Iz 2 rfl) rfl (an rfl rfl (Ia rfl (hst.get 0 rfl) rfl) rfl (dt rfl rfl (It rfl rfl rfl) (fun _ => rfl) (pU hG _ _ _ _ hst) (fun σ hst => ?_))))
     refine ⟨aY, ?_⟩
     refine an rfl rfl (dI rfl) rfl (wQ 1 rfl (rD rfl rfl (al rfl) (fun _ => rfl) (fun h55 => ?_) (fun h55 => ?_)))
     ·refine wQ 12 rfl (ba (ad (aC rfl (aj (ah rfl (vQ 1 rfl (nT (aB (au (?_))))))))))
      exact ay rfl rfl ⟨congrArg AV.bool (by rw [hRX]; unfold fM; simp only [bf]; simp only [jR h35, jR h45, jR h55, cond_true, cond_false]; (first | done | rfl)), hst.pop.pop⟩
     ·refine wQ 1 rfl (an rfl rfl (cP hp rfl) rfl (jq hp rfl rfl rfl rfl (k := 4) (by kernel_rfl) (lb rfl) (fun _ => rfl) (fun p58 hp58 => ?_)))
      refine an rfl rfl (Ih hst hp58 rfl rfl) rfl (an rfl rfl (Iz 1 rfl) rfl (an rfl rfl (Ia rfl (hst.get 1 rfl) rfl) rfl (an rfl rfl (H9 hi rfl rfl rfl (e := 79) rfl) rfl (an rfl rfl (Iz 3 rfl) rfl (an rfl rfl (Ia rfl (hst.get 0 rfl) rfl) rfl (dt rfl rfl (It rfl rfl rfl) (fun _ => rfl) (pU hG _ _ _ _ hst) (fun σ hst => ?_)))))))
      refine ⟨aY, ?_⟩
      refine an rfl rfl (dI rfl) rfl (wQ 1 rfl (ba (ad (aE rfl (fun h67 => ?_) (fun h67 => ?_)))))
      ·refine aj (ah rfl (vQ 1 rfl (nT (aB (au (?_))))))
       exact ay rfl rfl ⟨congrArg AV.bool (by rw [hRX]; unfold fM; simp only [bf]; simp only [jR h35, jR h45, jR h55, jR h67, cond_true, cond_false]; (first | done | rfl)), hst.pop.pop⟩
      ·refine aF (ad (aj (aj (aR (l := [(0, []), (1, []), (2, []), (3, []), (4, []), (5, []), (6, []), (7, [])]) (by kernel_rfl) (by kernel_rfl) (wQ 1 rfl (an rfl rfl (cP hp rfl) rfl (jq hp rfl rfl rfl rfl (k := 5) (by kernel_rfl) (lb rfl) (fun _ => rfl) (fun p70 hp70 => ?_))))))))
       refine an rfl rfl (Ih hst hp70 rfl rfl) rfl (an rfl rfl (H9 hk rfl rfl rfl (e := 82) rfl) rfl (an rfl rfl (Iz 4 rfl) rfl (an rfl rfl (Ia rfl (hst.get 0 rfl) rfl) rfl (wQ 1 rfl (ba (ad (aE rfl (fun h75 => ?_) (fun h75 => ?_))))))))
       ·refine aj (ah rfl (vQ 1 rfl (nT (aB (au (?_))))))
        exact ay rfl rfl ⟨congrArg AV.bool (by rw [hRX]; unfold fM; simp only [bf]; simp only [jR h35, jR h45, jR h55, jR h67, h75, cond_true, cond_false]; (first | done | rfl)), hst.pop.pop⟩
       ·refine aF (ad (aj (aj (ah rfl (vQ 1 rfl (aa rfl (cP hp rfl) rfl (bD hp rfl rfl rfl (k := 5) (by kernel_rfl) (lb rfl) (fun _ => rfl) (fun p78 hp78 => ?_))))))))
        refine aa rfl (Ih hst hp78 rfl rfl) rfl (aa rfl (H9 hk rfl rfl rfl (e := 82) rfl) rfl (vQ 1 rfl (nT (aP ?_))))
        obtain ⟨LL1, hst, hLL1⟩ := hst.named
        refine bu [4, 6, 81, 82, 83, 84, 85, 86, 87, 88, 89, 90, 91, 92, 93, 94] (fun j t σ => ∃ (i : Nat), j + i = x.exprs.length ∧ (x.exprs.take i).all (eO c.aW k) = true ∧ t.get 81 = some (.int .i64 (.ofNat i)) ∧ St σ K LL1) (x.exprs.length) ⟨0, rfl, rfl, rfl, hst⟩ ?_
        clear hst; intro j9 t σ ar hI; obtain ⟨i, hj, ha, hv81, hst⟩ := hI
        subst hLL1
        obtain ⟨o4, o6, o81, o82, o83, o84, o85, o86, o87, o88, o89, o90, o91, o92, o93, o94, ar⟩ := ar.HE rfl rfl rfl rfl
        obtain rfl := ar.nil; clear ar
        replace hv81 : o81 = some _ := hv81; subst hv81
        refine aj (ah rfl (vQ 1 rfl (nT (aj (aE rfl (fun h82 => ?_) (fun h82 => ?_))))))
        ·refine aF (ad (aj (aP (aj (ah rfl (vQ 2 rfl (nT (aj (aR (l := [(0, []), (1, []), (2, []), (3, []), (4, []), (5, []), (6, []), (7, []), (8, []), (9, [])]) (by kernel_rfl) (by kernel_rfl) (wQ 1 rfl (an rfl rfl (cP hp rfl) rfl (jq hp rfl rfl rfl rfl (k := 5) (by kernel_rfl) (lb rfl) (fun _ => rfl) (fun p86 hp86 => ?_)))))))))))))
         refine an rfl rfl (Ih hst hp86 rfl rfl) rfl (wQ 1 rfl ?_)
         obtain ⟨x89, hx89, hi89⟩ := dv h82
         refine Ic (e := 82) (m := 4) hk hx89 rfl rfl rfl rfl rfl (fun _ => rfl) (fun p89 vs89 hp89 hl89 hr89 => ?_)
         have hr89rawx := hr89
         refine an rfl rfl (Iz 0 rfl) rfl (an rfl rfl (Ia rfl (hst.get 1 rfl) rfl) rfl (dt rfl rfl (It rfl rfl rfl) (fun _ => rfl) (wY hG _ _ _ _ _ hp89 hl89 hr89rawx _ _ hst) (fun σ hst => ?_)))
         refine ⟨aY, ?_⟩
         refine an rfl rfl (dI rfl) rfl (ba (ad (aE rfl (fun h93 => ?_) (fun h93 => ?_))))
         ·refine aj (ah rfl (vQ 1 rfl (nT (aB (aD (au (bx (aD (au (?_))))))))))
          exact ay rfl rfl ⟨congrArg AV.bool (by rw [hRX]; unfold fM; rw [ju hx89 (mn h93)]; simp only [bf]; simp only [jR h35, jR h45, jR h55, jR h67, h75, cond_true, cond_false]; (first | done | rfl)), hst.pop.pop⟩
         ·refine aF (aK (ad (ah rfl (vQ 2 rfl (af (aQ ⟨j9 - 1, by omega, (by (iterate 31 refine bq.put rfl ?_); exact bq.refl _ _), i + 1, by omega, fL ha hx89 (fY h93), congrArg (fun z => some (AV.int .i64 z)) (bg (by have := hk.bG; omega)), hst⟩))))))
        ·refine bz (aZ (bc (aU (ad (aj (ah rfl (vQ 1 rfl (nT (aB ?_)))))))))
         exact ay rfl rfl ⟨congrArg AV.bool (by rw [hRX]; unfold fM; rw [ec ha (bn h82)]; simp only [bf]; simp only [jR h35, jR h45, jR h55, jR h67, h75, cond_true, cond_false]; (first | done | rfl)), hst.pop.pop⟩
theorem qe {G : Cx} (hG : Plain G) {K : KP} (hgl : kP G K) {k : Nat} {c : XC} {v : AV} (hi : bC K 6 (fR K k) c.ins v) {σ : av} {L : Own} (hst : St σ K L) :
  a7 Tryz.prog G 112 [.agg [.int .i64 c.aW, v]] σ fun v σ' => v = .int .i64 (cY k c) ∧ St σ' K L := by
 refine a8 hG Tryz.func112 rfl (t := PT.leaf.put (some (.agg [.int .i64 c.aW, v])) 0) (by rfl) (aj (ah rfl (bp hst rfl (cU rfl rfl) (fun _ => rfl) (fun σ b1 hst => ?_))))
 refine vQ 1 rfl (nT (aj (aj (ah rfl (aa rfl (Iz 0 rfl) rfl (aa rfl (Ia rfl (hst.get 0 rfl) rfl) rfl (vQ 1 rfl (aL rfl (al rfl) (fun _ => rfl) (fun h10 => ?_) (fun h10 => ?_)))))))))
 ·refine vQ 5 rfl (nT (aC rfl (aj (ah rfl (vQ 1 rfl (nT (aB (au (?_)))))))))
  exact ay rfl rfl ⟨congrArg (AV.int .i64) (by symm; unfold cY; rw [h10]; rfl), hst.pop⟩
 ·refine aa rfl (Iz 1 rfl) rfl (aa rfl (Ia rfl (hst.get 0 rfl) rfl) rfl (aa rfl (H9 hi rfl rfl rfl (e := 79) rfl) rfl (vQ 2 rfl (nT (aE rfl (fun h15 => ?_) (fun h15 => ?_))))))
  ·refine aj (ah rfl (vQ 1 rfl (nT (aB (au (?_))))))
   exact ay rfl rfl ⟨congrArg (AV.int .i64) (by symm; unfold cY; rw [h10, show cd 4000 (.ofNat c.ins.length) = true from h15]; rfl), hst.pop⟩
  ·have h15x : cd 4000 (.ofNat c.ins.length) = false := h15
   refine aF (ad (aj (aj (ah rfl (aa rfl (Iz 1 rfl) rfl (aa rfl (Ia rfl (hst.get 0 rfl) rfl) rfl (aa rfl (H9 hi rfl rfl rfl (e := 79) rfl) rfl (vQ 1 rfl (nT (aP ?_))))))))))
   obtain ⟨LL1, hst, hLL1⟩ := hst.named
   refine bu [2, 3, 4, 5, 19, 20, 21, 22, 23, 24, 25, 26, 27, 28, 29, 30, 31, 32, 33, 34, 35, 36, 37, 38, 39, 40, 41, 42, 43] (fun j t σ => ∃ (i : Nat), j + i = c.ins.length ∧ (c.ins.take i).all (sN k) = true ∧ t.get 19 = some (.int .i64 (.ofNat i)) ∧ St σ K LL1) (c.ins.length) ⟨0, rfl, rfl, rfl, hst⟩ ?_
   clear hst; intro j4 t σ ar hI; obtain ⟨i, hj4, ha4, hv19, hst⟩ := hI
   subst hLL1
   obtain ⟨o2, o3, o4, o5, o19, o20, o21, o22, o23, o24, o25, o26, o27, o28, o29, o30, ar⟩ := ar.HE rfl rfl rfl rfl
   replace ar := ar.dC rfl rfl; obtain ⟨o31, o32, o33, o34, o35, o36, o37, o38, ar⟩ := ar
   replace ar := ar.rp rfl; obtain ⟨o39, o40, o41, o42, ar⟩ := ar
   replace ar := ar.fD rfl; obtain ⟨o43, ar⟩ := ar
   obtain rfl := ar.nil; clear ar
   replace hv19 : o19 = some _ := hv19; subst hv19
   refine aj (ah rfl (vQ 1 rfl (nT (aj (aE rfl (fun h20 => ?_) (fun h20 => ?_))))))
   ·refine aF (ad (aj (aP (aj (ah rfl (vQ 2 rfl (nS rfl (aa rfl (Iz 1 rfl) rfl (aa rfl (Ia rfl (hst.get 0 rfl) rfl) rfl (vQ 1 rfl ?_))))))))))
    obtain ⟨x25, hx25, hi25⟩ := dv h20
    refine Ib (e := 79) (m := 6) hi hx25 rfl rfl rfl rfl (fun _ => rfl) (fun p25 vs25 hp25 hl25 hr25 => ?_)
    have hr25rawx := hr25; have hr25' := hr25; obtain ⟨v25, rfl, hk25⟩ := hr25'
    refine bD hp25 rfl rfl rfl (k := 5) (by kernel_rfl) (lb rfl) (fun _ => rfl) (fun p26 hp26 => ?_)
    refine aa rfl (Ih hst hp26 rfl rfl) rfl (aa rfl (H9 hk25 rfl rfl rfl (e := 82) rfl) rfl (vQ 1 rfl (nT (aP ?_))))
    obtain ⟨LL2, hst, hLL2⟩ := hst.named
    refine bu [2, 4, 5, 29, 30, 31, 32, 33, 34, 35, 36, 37, 38, 39, 40, 41, 42] (fun j t σ => ∃ (i2 : Nat), j + i2 = x25.exprs.length ∧ (x25.exprs.take i2).all (fun e => (oU k e 1 0).isSome) = true ∧ t.get 29 = some (.int .i64 (.ofNat i2)) ∧ St σ K LL2) (x25.exprs.length) ⟨0, rfl, rfl, rfl, hst⟩ ?_
    clear hst; intro j7 t σ ar hI; obtain ⟨i2, hj7, ha7, hv29, hst⟩ := hI
    subst hLL2
    obtain ⟨o2, o4, o5, o29, o30, o31, o32, o33, o34, o35, o36, o37, o38, o39, o40, o41, ar⟩ := ar.HE rfl rfl rfl rfl
    replace ar := ar.fD rfl; obtain ⟨o42, ar⟩ := ar
    obtain rfl := ar.nil; clear ar
    replace hv29 : o29 = some _ := hv29; subst hv29
    refine aj (ah rfl (vQ 1 rfl (nT (aj (aE rfl (fun h30 => ?_) (fun h30 => ?_))))))
    ·refine aF (ad (aj (aP (aj (ah rfl (vQ 2 rfl (nS rfl (bp hst rfl (Ix (cs := [.int .i64 0])) (fun _ => rfl) (fun σ b2 hst => ?_)))))))))
     refine bA hst rfl (Io rfl rfl rfl (hst.get 0 rfl) (m := 1) rfl rfl (cells' := [_]) rfl) rfl (fun σ hst => ?_)
     refine nS rfl (aa rfl (Iz 1 rfl) rfl (aa rfl (Ia rfl (hst.get 1 rfl) rfl) rfl (vQ 1 rfl (Ib (e := 79) (m := 6) hi hx25 rfl rfl rfl rfl (fun _ => rfl) (fun p35 vs35 hp35 hl35 hr35 => ?_)))))
     have hr35rawx := hr35; have hr35' := hr35; obtain ⟨v35, rfl, hk35⟩ := hr35'
     refine bD hp35 rfl rfl rfl (k := 5) (by kernel_rfl) (lb rfl) (fun _ => rfl) (fun p36 hp36 => ?_)
     refine aa rfl (Ih hst hp36 rfl rfl) rfl (vQ 1 rfl ?_)
     obtain ⟨x39, hx39, hi39⟩ := dv h30
     refine Ib (e := 82) (m := 4) hk35 hx39 rfl rfl rfl rfl (fun _ => rfl) (fun p39 vs39 hp39 hl39 hr39 => ?_)
     have hr39rawx := hr39
     refine cJ rfl (It rfl rfl rfl) (fun _ => rfl) (EA hG _ _ _ _ hp39 hl39 hr39rawx _ _ _ _ _ _ hst) ?_
     rintro _ σ ⟨m2, rfl, hst, hm2⟩
     refine aa rfl (dI rfl) rfl (nT (aE rfl (fun h41 => ?_) (fun h41 => ?_)))
     ·refine aj (ah rfl (vQ 1 rfl (nT (aB (aD (au (bx (aD (aD (au (bx (aD (au (?_))))))))))))))
      exact ay rfl rfl ⟨congrArg (AV.int .i64) (by symm; unfold cY; rw [h10, show cd 4000 (.ofNat c.ins.length) = false from h15x, ju hx25 (show sN k x25 = false from ju hx39 (mn h41))]; rfl), hst.pop.pop⟩
     ·refine aF (aK (ad (ah rfl (vQ 2 rfl (af ?_)))))
      have hst := hst.pop
      refine aQ ⟨j7 - 1, by omega, (by (iterate 33 refine bq.put rfl ?_); exact bq.refl _ _), i2 + 1, by omega, fL ha7 hx39 (fY h41), congrArg (fun z => some (AV.int .i64 z)) (bg (by have := hk25.bG; omega)), hst⟩
    ·refine bz (aZ (bc (aU (aK (ad (ah rfl (vQ 2 rfl (af (aQ ⟨j4 - 1, by omega, (by (iterate 60 refine bq.put rfl ?_); exact bq.refl _ _), i + 1, by omega, fL ha4 hx25 (show sN k x25 = true from ec ha7 (bn h30)), congrArg (fun z => some (AV.int .i64 z)) (bg (by have := hi.bG; omega)), hst⟩)))))))))
   ·refine bz (aZ (bc (aU (ad (aj (aj (ah rfl (aa rfl (Iz 0 rfl) rfl (aa rfl (Ia rfl (hst.get 0 rfl) rfl) rfl (vQ 1 rfl (aL rfl (al rfl) (fun _ => rfl) (fun h47 => ?_) (fun h47 => ?_))))))))))))
    ·refine vQ 5 rfl (nT (aC rfl (aj (ah rfl (vQ 1 rfl (nT (aB (au (?_)))))))))
     exact ay rfl rfl ⟨congrArg (AV.int .i64) (by symm; unfold cY; rw [h10, show cd 4000 (.ofNat c.ins.length) = false from h15x, ec ha4 (bn h20), h47]; rfl), hst.pop⟩
    ·refine aa rfl (Iz 1 rfl) rfl (aa rfl (Ia rfl (hst.get 0 rfl) rfl) rfl (aa rfl (H9 hi rfl rfl rfl (e := 79) rfl) rfl (vQ 2 rfl (nT (aE rfl (fun h52 => ?_) (fun h52 => ?_))))))
     ·refine aj (ah rfl (vQ 1 rfl (nT (aB (au (?_))))))
      exact ay rfl rfl ⟨congrArg (AV.int .i64) (by symm; unfold cY; rw [h10, show cd 4000 (.ofNat c.ins.length) = false from h15x, ec ha4 (bn h20), h47, show bk (.ofNat c.ins.length) 0 = true from h52]; rfl), hst.pop⟩
     ·have h52x : bk (.ofNat c.ins.length) 0 = false := h52
      refine aF (ad (aj (aj (ah rfl (aa rfl (Iz 1 rfl) rfl (aa rfl (Ia rfl (hst.get 0 rfl) rfl) rfl (aa rfl (H9 hi rfl rfl rfl (e := 79) rfl) rfl (vQ 1 rfl (nT (aP ?_))))))))))
      obtain ⟨LL3, hst, hLL3⟩ := hst.named
      refine bu [2, 6, 56, 57, 58, 59, 60, 61, 62, 63, 64, 65, 66] (fun j t σ => ∃ (i : Nat), j + i = c.ins.length ∧ (c.ins.take i).all (fG c.aW (.ofNat c.ins.length) k) = true ∧ t.get 56 = some (.int .i64 (.ofNat i)) ∧ St σ K LL3) (c.ins.length) ⟨0, rfl, rfl, rfl, hst⟩ ?_
      clear hst; intro j17 t σ ar hI; obtain ⟨i, hj17, ha17, hv56, hst⟩ := hI
      subst hLL3
      replace ar := ar.dC rfl rfl; obtain ⟨o2, o6, o56, o57, o58, o59, o60, o61, ar⟩ := ar
      replace ar := ar.rp rfl; obtain ⟨o62, o63, o64, o65, ar⟩ := ar
      replace ar := ar.fD rfl; obtain ⟨o66, ar⟩ := ar
      obtain rfl := ar.nil; clear ar
      replace hv56 : o56 = some _ := hv56; subst hv56
      refine aj (ah rfl (vQ 1 rfl (nT (aj (aE rfl (fun h57 => ?_) (fun h57 => ?_))))))
      ·refine aF (ad (aj (aP (aj (ah rfl (vQ 2 rfl (nT (aj (aR (l := [(0, []), (1, []), (2, []), (3, []), (4, []), (5, []), (6, [])]) (by kernel_rfl) (by kernel_rfl) (an rfl rfl (IC rfl (hst.get 0 rfl) (n := 2) (vs := [_, _]) rfl) rfl (an rfl rfl (Iz 1 rfl) rfl (an rfl rfl (Ia rfl (hst.get 0 rfl) rfl) rfl ?_))))))))))))
       refine wQ 1 rfl ?_
       obtain ⟨x63, hx63, hi63⟩ := dv h57
       refine Ic (e := 79) (m := 6) hi hx63 rfl rfl rfl rfl rfl (fun _ => rfl) (fun p63 vs63 hp63 hl63 hr63 => ?_)
       have hr63rawx := hr63; have hr63' := hr63; obtain ⟨v63, rfl, hk63⟩ := hr63'
       refine dt rfl rfl (It rfl rfl rfl) (fun _ => rfl) (Fh hG hgl hi hp63 hr63rawx hst) (fun σ hst => ?_)
       refine ⟨aY, ?_⟩
       refine an rfl rfl (dI rfl) rfl (ba (ad (aE rfl (fun h65 => ?_) (fun h65 => ?_))))
       ·refine aj (ah rfl (vQ 1 rfl (nT (aB (aD (au (bx (aD (au (?_))))))))))
        exact ay rfl rfl ⟨congrArg (AV.int .i64) (by symm; unfold cY; rw [h10, show cd 4000 (.ofNat c.ins.length) = false from h15x, ec ha4 (bn h20), h47, show bk (.ofNat c.ins.length) 0 = false from h52x, ju hx63 (mn h65)]; rfl), hst.pop⟩
       ·refine aF (aK (ad (ah rfl (vQ 2 rfl (af (aQ ⟨j17 - 1, by omega, (by (iterate 25 refine bq.put rfl ?_); exact bq.refl _ _), i + 1, by omega, fL ha17 hx63 (fY h65), congrArg (fun z => some (AV.int .i64 z)) (bg (by have := hi.bG; omega)), hst⟩))))))
      ·refine bz (aZ (bc (aU (ad (aj (aj (ah rfl (aa rfl (Iz 1 rfl) rfl (aa rfl (Ia rfl (hst.get 0 rfl) rfl) rfl (aa rfl (Iz 1 rfl) rfl (aa rfl (Ia rfl (hst.get 0 rfl) rfl) rfl (aa rfl (H9 hi rfl rfl rfl (e := 79) rfl) rfl (vQ 1 rfl ?_)))))))))))))
       have hpos : 0 < c.ins.length := by rcases Nat.eq_zero_or_pos c.ins.length with e | e; rw [e] at h52x; cases h52x; exact e
       obtain ⟨x73, hx73⟩ := cL (show c.ins.length - 1 < c.ins.length from by omega)
       refine Ib (e := 79) (m := 6) hi hx73 rfl rfl rfl (congrArg (fun z => some (AV.int .i64 z)) (nj (b := 1) (by omega) hi.bG)) (fun _ => rfl) (fun p73 vs73 hp73 hl73 hr73 => ?_)
       have hr73rawx := hr73; have hr73' := hr73; obtain ⟨v73, rfl, hk73⟩ := hr73'
       refine bD hp73 rfl rfl rfl (k := 0) (by kernel_rfl) (lb rfl) (fun _ => rfl) (fun p74 hp74 => ?_)
       refine aa rfl (Ih hst hp74 rfl rfl) rfl (nT (aP (aj (aj (ah rfl (aL rfl (aA rfl rfl rfl) (fun _ => rfl) (fun h77 => ?_) (fun h77 => ?_)))))))
       ·refine vQ 1 rfl (nT (aC rfl (aF (ad (aC rfl (aj (ah rfl (vQ 1 rfl (nT (aB (aD (au (?_)))))))))))))
        exact ay rfl rfl ⟨congrArg (AV.int .i64) (by symm; unfold cY; rw [h10, show cd 4000 (.ofNat c.ins.length) = false from h15x, ec ha4 (bn h20), h47, show bk (.ofNat c.ins.length) 0 = false from h52x, ec ha17 (bn h57), hx73]; show (bif hM x73 then (0 : Int) else 2) = _; unfold hM; rw [h77]; rfl), hst.pop⟩
       ·refine vQ 1 rfl (nT (aI rfl (aj (ah rfl (aL rfl (aA rfl rfl rfl) (fun _ => rfl) (fun h78 => ?_) (fun h78 => ?_))))))
        ·refine vQ 1 rfl (nT (aC rfl (aF (ad (aC rfl (aj (ah rfl (vQ 1 rfl (nT (aB (aD (au (?_)))))))))))))
         exact ay rfl rfl ⟨congrArg (AV.int .i64) (by symm; unfold cY; rw [h10, show cd 4000 (.ofNat c.ins.length) = false from h15x, ec ha4 (bn h20), h47, show bk (.ofNat c.ins.length) 0 = false from h52x, ec ha17 (bn h57), hx73]; show (bif hM x73 then (0 : Int) else 2) = _; unfold hM; rw [h77, h78]; rfl), hst.pop⟩
        ·refine vQ 1 rfl (nT (aI rfl (ah rfl (aL rfl (aA rfl rfl rfl) (fun _ => rfl) (fun h79 => ?_) (fun h79 => ?_)))))
         ·refine vQ 1 rfl (nT (aC rfl (aj (ah rfl (vQ 1 rfl (nT (aB (aD (au (?_))))))))))
          exact ay rfl rfl ⟨congrArg (AV.int .i64) (by symm; unfold cY; rw [h10, show cd 4000 (.ofNat c.ins.length) = false from h15x, ec ha4 (bn h20), h47, show bk (.ofNat c.ins.length) 0 = false from h52x, ec ha17 (bn h57), hx73]; show (bif hM x73 then (0 : Int) else 2) = _; unfold hM; rw [h77, h78, h79]; rfl), hst.pop⟩
         ·refine vQ 1 rfl (nT (aI rfl (aF (aK (ad (aj (ah rfl (vQ 1 rfl (nT (aB ?_))))))))))
          exact ay rfl rfl ⟨congrArg (AV.int .i64) (by symm; unfold cY; rw [h10, show cd 4000 (.ofNat c.ins.length) = false from h15x, ec ha4 (bn h20), h47, show bk (.ofNat c.ins.length) 0 = false from h52x, ec ha17 (bn h57), hx73]; show (bif hM x73 then (0 : Int) else 2) = _; unfold hM; rw [h77, h78, h79]; rfl), hst.pop⟩
end Go.Ev
namespace Go.Ev
variable [Env]
noncomputable def Gp : List Int → List Int → Int
 | x :: l, y :: m => bif bk (Gd x y) 0 then Gp l m else Gd x y
 | _, _ => 0
def gY (A B : List Int) (c : Int) : Prop := ∀ l m, Gp (A ++ l) (B ++ m) = bif bk c 0 then Gp l m else c
theorem gY.nil : gY [] [] 0 := fun _ _ => rfl
theorem gY.one (x y : Int) : gY [x] [y] (Gd x y) := fun _ _ => rfl
theorem gY.app {A B A' B' : List Int} {c c' : Int} (h : gY A B c) (h' : c = 0 → gY A' B' c') : gY (A ++ A') (B ++ B') (bif bk c 0 then c' else c) := fun l m => by
 rw [List.append_assoc, List.append_assoc, h]
 simp only [Ha]
 by_cases hc : c = 0
 ·simp only [hc, if_true]
  rw [h' hc]
  simp only [Ha]
 ·simp only [hc, if_false]
theorem gY.rows {α : Type} {enc : α → List Int} {c : α → α → Int} : ∀ {ls ms : List α}, ls.length = ms.length → (∀ (i : Nat) (x y : α), ls[i]? = some x → ms[i]? = some y → gY (enc x) (enc y) (c x y)) → gY (ls.flatMap enc) (ms.flatMap enc) (GP c ls ms)
 | [], [], _, _ => gY.nil
 | [], _ :: _, h, _ => by cases h
 | _ :: _, [], h, _ => by cases h
 | x :: ls, y :: ms, h, hc => by
  rw [List.flatMap_cons, List.flatMap_cons]
  exact (hc 0 x y rfl rfl).app fun _ => gY.rows (by simpa using h) fun i x y h1 h2 => hc (i + 1) x y (by simpa using h1) (by simpa using h2)
theorem ints_at {xs : List Int} {i : Nat} {x : Int} (h : xs[i]? = some x) : (ints xs)[i]? = some (.int .i64 x) := by
 unfold ints; rw [List.getElem?_map, h]; rfl
theorem ee {K : KP} {xs : List Int} {vb e : Nat} (h : K vb (.row (ints xs) e false)) (hn : xs.length ≤ 1000) : bC K 1 dE xs (.slice vb 0 xs.length (.known xs.length)) := by
 refine .inr ⟨vb, 0, _, _, e, false, rfl, .inr ⟨_, rfl, Nat.le_refl _⟩, h, ?_, by omega, fun i x hx => ?_⟩
 ·unfold ints; rw [List.length_map]; omega
 ·rw [Nat.mul_one, Nat.zero_add, bV (ints_at hx)]; rfl
theorem map_take {α β : Type} {f : α → β} {l : List α} {i : Nat} {x : α} (h : l[i]? = some x) : (l.take (i + 1)).map f = (l.take i).map f ++ [f x] := by
 rw [List.take_add_one, h, List.map_append]; rfl
theorem k9 {xs : List Int} {b e E : Nat} (hn : xs.length ≤ 1000) : eG 1 E dE xs (.slice b 0 xs.length (.known xs.length)) [(b, .row (ints xs) e false)] := by
 refine .inr ⟨b, _, _, e, rfl, rfl, ?_, fun i x hx => ?_, .inl rfl, by omega⟩
 ·unfold ints; rw [List.length_map]; omega
 ·rw [Nat.mul_one, bV (ints_at hx)]; rfl
structure Iu (g : XG) : Prop where
 t : g.threads.length ≤ 4
 r : ∀ l ∈ g.threads, l.length ≤ 14
 f : g.from_.length ≤ 4
 fr : ∀ l ∈ g.from_, l.length ≤ 14
 o : g.order.length ≤ 6
 IE : ∀ l ∈ g.order, l.length ≤ 56
 i : g.init.length ≤ 6
abbrev gI (n : Nat) : AV := .int .i64 (.ofNat n)
abbrev gS (n : Nat) : AV := .int .u8 (.ofNat n)
section
variable {σ : av} {K : KP} {A M L : Own} {x : Nat × bF}
theorem St.front (h : St σ K (A ++ (M ++ L))) : St σ K (M ++ (A ++ L)) := h.perm (List.perm_append_comm_assoc A M L)
theorem St.zr (h : St σ K (x :: (A ++ (M ++ L)))) : St σ K (x :: (M ++ (A ++ L))) := h.perm ((List.perm_append_comm_assoc A M L).cons x)
theorem St.behind (h : St σ K (x :: (M ++ L))) : St σ K (M ++ x :: L) := h.perm List.perm_middle.symm
theorem St.ahead (h : St σ K (M ++ x :: L)) : St σ K (x :: (M ++ L)) := h.perm List.perm_middle
end
theorem kS.He {α : Type} {m E : Nat} {R : α → List AV → Prop} {l : List α} {u : AV} {M : Own} (h : kS m E R l u M) {k : Nat} (hk : k ≤ l.length) :
  ∃ u', kS m E R (l.take k) u' M ∧ ∀ {P : Program} {ev : Operand → Option AV} {t : TypeId} {x hi : Operand} {kk : IntKind}, P.underlying t = some (.slice E) → (P.info? E).map (·.size) = some m → ev x = some u → ev hi = some (.int kk (.ofNat k)) → ew P ev t x none (some hi) none = some u' := by
 rcases h with ⟨rfl, rfl, rfl⟩ | ⟨b, c, cells, e, rfl, rfl, h3, h4, h5, h6⟩
 ·refine ⟨.aq, .inl ⟨List.take_nil, rfl, rfl⟩, fun {P ev t x hi kk} hu hj hx hh => ?_⟩
  obtain ⟨j, hj', rfl⟩ := Option.map_eq_some_iff.1 hj
  obtain rfl : k = 0 := by simpa using hk
  have : bY ev 0 0 none (some hi) = some (0, 0) := lS hh (Nat.le_refl _)
  simp only [ew, hu, hx, hj', this]
 ·have hl : (l.take k).length = k := by rw [List.length_take]; omega
  have hR : ∀ (i : Nat) (x : α), (l.take k)[i]? = some x → R x ((cells.drop (i * m)).take m) := fun i x hi => by
   rw [List.getElem?_take] at hi
   split at hi
   ·exact h4 i x hi
   ·cases hi
  have hle : k * m ≤ cells.length := Nat.le_trans (Nat.mul_le_mul_right _ hk) h3
  rcases h5 with ⟨n, rfl, h7, h8⟩ | ⟨rfl, rfl⟩
  ·refine ⟨.slice b 0 k (.known n), .inr ⟨b, .known n, cells, e, by rw [hl], rfl, by rw [hl]; exact hle, hR, .inl ⟨n, rfl, by rw [hl]; omega, h8⟩, by rw [hl]; omega⟩, fun {P ev t x hi kk} hu hj hx hh => ?_⟩
   obtain ⟨j, hj', rfl⟩ := Option.map_eq_some_iff.1 hj
   have : bY ev l.length n none (some hi) = some (0, k) := lS hh (by omega)
   simp only [ew, hu, hx, cutAt, this, cut, hj']
   cases hn : Nat.beq n 0 with
   | true => simp
   | false => simp
  ·refine ⟨.slice b 0 k (.upto m), .inr ⟨b, .upto m, cells, e, by rw [hl], rfl, by rw [hl]; exact hle, hR, .inr ⟨rfl, rfl⟩, by rw [hl]; omega⟩, fun {P ev t x hi kk} hu hj hx hh => ?_⟩
   obtain ⟨j, hj', rfl⟩ := Option.map_eq_some_iff.1 hj
   have : bY ev l.length l.length none (some hi) = some (0, k) := lS hh hk
   simp only [ew, hu, hx, this, hj', show Nat.beq j.size j.size = true from Nat.beq_refl _, cond_true, Nat.zero_mul, Nat.sub_zero, Nat.add_zero]
theorem kS.bG {α : Type} {m E : Nat} {R : α → List AV → Prop} {l : List α} {u : AV} {M : Own} (h : kS m E R l u M) : l.length ≤ 1048576 := by
 rcases h with ⟨rfl, _⟩ | ⟨_, _, _, _, _, _, _, _, _, h⟩
 ·exact Nat.zero_le _
 ·exact h
theorem DX {l : List Nat} {i n : Nat} (h : l[i]? = some n) : (l.map Int.ofNat)[i]? = some (.ofNat n) := by rw [List.getElem?_map, h]; rfl
theorem gy (l : List Nat) : (l.map Int.ofNat).length = l.length := List.length_map ..
theorem Ek {l : List Nat} {a : Nat} (h : l.getLast? = some a) : l[l.length - 1]? = some a := by rw [← List.getLast?_eq_getElem?]; exact h
theorem B7 (l : List Nat) : (l.map Int.ofNat).take (l.length - 1) = l.dropLast.map Int.ofNat := by rw [List.dropLast_eq_take, List.map_take]
theorem xw (x : XI) (a : Nat) : (eB x a).length ≤ 2 := by
 unfold eB
 exact cond_ind2 _ (by simp) (cond_ind2 _ (by simp) (cond_ind2 _ (by simp) (cond_ind2 _ (by simp) (by simp))))
where
 cond_ind2 {a b : List Int} (c : Bool) (h1 : a.length ≤ 2) (h0 : b.length ≤ 2) : (bif c then a else b).length ≤ 2 := by cases c; exact h0; exact h1
theorem ng {c : XC} {a : Nat} {x : XI} (h : c.ins[a]? = some x) : (dw c a).length = (eB x a).length := by unfold dw; rw [h]; simp
theorem D8 {c : XC} {a g : Nat} {x : XI} {to : Int} (h : c.ins[a]? = some x) (ht : (eB x a)[g]? = some to) : (dw c a)[g]? = some to.toNat := by
 unfold dw; rw [h]
 show ((eB x a).map Int.toNat)[g]? = _
 rw [List.getElem?_map, ht]; rfl
theorem Dz {c : XC} {a g : Nat} {x : XI} (h : c.ins[a]? = some x) (hg : (eB x a).length ≤ g) : (dw c a)[g]? = none := by
 rw [List.getElem?_eq_none_iff, ng h]; exact hg
theorem uo {k : Nat} {c : XC} (hc : eY k c) {a g : Nat} {x : XI} {to : Int} (h : c.ins[a]? = some x) (ht : (eB x a)[g]? = some to) : ∃ t : Nat, to = .ofNat t ∧ t < c.ins.length ∧ (dw c a)[g]? = some t := by
 have hlt := (List.getElem?_eq_some_iff.1 h).1
 have hN := D8 h ht
 have hm := ph hc a hlt _ (List.mem_of_getElem? hN)
 refine ⟨to.toNat, ?_, hm, hN⟩
 have hx := hc.right x (List.mem_of_getElem? h)
 obtain ⟨n, sh, hn, n1, n13, hsh, hr⟩ := hY hx
 have hto := (hH hr).to
 have hmem := List.mem_of_getElem? ht
 unfold eB at hmem
 rw [hn] at hmem
 have tole : sh.to = true → 0 ≤ x.to ∧ x.to < (c.ins.length : Int) := fun e => by rw [e] at hto; exact jS hto
 have nn : ∀ y : Int, 0 ≤ y → y = .ofNat y.toNat := fun y hy => by show y = ((y.toNat : Nat) : Int); omega
 match n, n1, n13 with
 | 1, _, _ | 2, _, _ | 3, _, _ | 4, _, _ | 5, _, _ | 6, _, _ | 7, _, _ | 8, _, _ | 9, _, _ =>
  have e : to = .ofNat (a + 1) := List.mem_singleton.1 (show to ∈ [Int.ofNat (a + 1)] from hmem)
  rw [e]; rfl
 | 10, _, _ =>
  have e : to = x.to := List.mem_singleton.1 (show to ∈ [x.to] from hmem)
  have := tole (by cases hsh; rfl)
  rw [e]; exact nn _ this.1
 | 11, _, _ =>
  have e : to = .ofNat (a + 1) ∨ to = x.to := by have h2 : to ∈ [Int.ofNat (a + 1), x.to] := hmem; simpa using h2
  have := tole (by cases hsh; rfl)
  rcases e with e | e
  ·rw [e]; rfl
  ·rw [e]; exact nn _ this.1
 | 12, _, _ | 13, _, _ => exact absurd (show to ∈ ([] : List Int) from hmem) (by simp)
theorem xk {c : XC} : total (dw c) c.ins.length ≤ 2 * c.ins.length := by
 have h : ∀ (l : List Nat), (l.map fun i => (dw c i).length).sum ≤ 2 * l.length := by
  intro l
  induction l with
  | nil => simp
  | cons i l ih =>
   simp only [List.map_cons, List.sum_cons, List.length_cons]
   have : (dw c i).length ≤ 2 := by
    cases hx : c.ins[i]? with
    | none => unfold dw; rw [hx]; simp
    | some x => rw [ng hx]; exact xw x i
   omega
 have := h (List.range c.ins.length)
 rwa [List.length_range] at this
theorem EJ {nx : Nat → List Nat} {f : Nat} {s : DS} (h : s.path.length = 0) : wA nx (f + 1) s = some s.out := by
 unfold wA
 rw [List.eq_nil_of_length_eq_zero h]; rfl
theorem rX {nx : Nat → List Nat} {f a : Nat} {s s' : DS} (h : s.path.getLast? = some a) (hd : jv nx s a = some s') : wA nx (f + 1) s = wA nx f s' := by
 conv => lhs; unfold wA
 rw [h]; dsimp only; rw [hd]; rfl
theorem Cv {nx : Nat → List Nat} {f a : Nat} {s : DS} (h : s.path.getLast? = some a) (hd : jv nx s a = none) : wA nx (f + 1) s = none := by
 conv => lhs; unfold wA
 rw [h]; dsimp only; rw [hd]; rfl
theorem Bk {nx : Nat → List Nat} {s : DS} {a g : Nat} (hg : s.gone[a]? = some g) (hn : (nx a)[g]? = none) : jv nx s a = some { s with st := s.st.set a 2, out := s.out ++ [a], path := s.path.dropLast } := by
 unfold jv; rw [hg]; simp only [Option.getD_some]; rw [hn]
theorem zD {nx : Nat → List Nat} {s : DS} {a g to : Nat} (hg : s.gone[a]? = some g) (hn : (nx a)[g]? = some to) (hv : s.st[to]? = some 2) : jv nx s a = some { s with gone := s.gone.set a (g + 1) } := by
 unfold jv; rw [hg]; simp only [Option.getD_some]; rw [hn]; dsimp only; rw [hv]; rfl
theorem yL {nx : Nat → List Nat} {s : DS} {a g to : Nat} (hg : s.gone[a]? = some g) (hn : (nx a)[g]? = some to) (hv : s.st[to]? = some 1) : jv nx s a = none := by
 unfold jv; rw [hg]; simp only [Option.getD_some]; rw [hn]; dsimp only; rw [hv]; rfl
theorem yR {nx : Nat → List Nat} {s : DS} {a g to v : Nat} (hg : s.gone[a]? = some g) (hn : (nx a)[g]? = some to) (hv : s.st[to]? = some v) (h2 : v ≠ 2) (h1 : v ≠ 1) : jv nx s a = some { s with gone := s.gone.set a (g + 1), st := s.st.set to 1, path := s.path ++ [to] } := by
 unfold jv; rw [hg]; simp only [Option.getD_some]; rw [hn]; dsimp only; rw [hv]; simp only [Option.getD_some]; rw [if_neg h2, if_neg h1]
theorem zO {a b : Nat} (h : bk (.ofNat a) (.ofNat b) = false) : a ≠ b := fun e => by rw [e, gE] at h; simp at h
end Go.Ev
namespace Go.Ev
variable [Env]
open Go.Proofs
set_option maxRecDepth 4000
set_option maxHeartbeats 8000000
theorem qO {G : Cx} (hG : Plain G) {K : KP} {k : Nat} {x : XI} {a : Nat} (ha : a < 9223372036854775807) {vs : List AV} (h : fR K k x vs) {σ : av} {L : Own} (hst : St σ K L) :
  a7 Tryz.prog G 216 [.agg vs, .int .i64 (.ofNat a)] σ fun v σ' => ∃ M, eG 1 3 dE (eB x a) v M ∧ St σ' K (M ++ L) := by
 obtain ⟨w, rfl, hk⟩ := h
 refine a8 hG Tryz.func216 rfl (t := (PT.leaf.put (some (.agg _)) 0).put (some (.int .i64 (.ofNat a))) 1) (by rfl) (aj (ah rfl (bp hst rfl (cU rfl rfl) (fun _ => rfl) (fun σ b1 hst => ?_))))
 refine vQ 1 rfl (nT (aj (aj (ah rfl (aa rfl (Iz 0 rfl) rfl (aa rfl (Ia rfl (hst.get 0 rfl) rfl) rfl (nT (aP (aj (ah rfl (aL rfl (aA rfl rfl rfl) (fun _ => rfl) (fun h8 => ?_) (fun h8 => ?_))))))))))))
 ·refine vQ 1 rfl (nT (aC rfl (aj (ah rfl (aa rfl (Iz 4 rfl) rfl (aa rfl (Ia rfl (hst.get 0 rfl) rfl) rfl (lD hst rfl (dy (e := 3) (m := 1) (z := [.int .i64 0]) (cs := [_]) (by kernel_rfl) (by kernel_rfl) (by kernel_rfl) (by kernel_rfl) (bL rfl rfl rfl rfl cX)) (fun _ => rfl) (fun σ b2 hst => ?_))))))))
  refine vQ 1 rfl (nT (aB (aD (au (?_)))))
  exact ay rfl rfl ⟨[(b2, _)], by unfold eB; rw [h8]; exact k9 (xs := [x.to]) (by simp), hst.sub (.cons_cons _ (.cons _ (.refl _)))⟩
 ·refine vQ 1 rfl (nT (aI rfl (aj (ah rfl (aL rfl (aA rfl rfl rfl) (fun _ => rfl) (fun h13 => ?_) (fun h13 => ?_))))))
  ·refine vQ 1 rfl (nT (aC rfl (aj (ah rfl (vQ 1 rfl (aa rfl (aA rfl rfl (show _ = some (AV.int .i64 (.ofNat (a + 1))) from congrArg (fun z => some (AV.int .i64 z)) (bg ha))) rfl (aa rfl (Iz 4 rfl) rfl (aa rfl (Ia rfl (hst.get 0 rfl) rfl) rfl (lD hst rfl (dy (e := 3) (m := 1) (z := [.int .i64 0]) (cs := [_, _]) (by kernel_rfl) (by kernel_rfl) (by kernel_rfl) (by kernel_rfl) (bL rfl rfl rfl rfl (bL rfl rfl rfl rfl cX))) (fun _ => rfl) (fun σ b2 hst => ?_))))))))))
   refine vQ 1 rfl (nT (aB (aD (au (?_)))))
   exact ay rfl rfl ⟨[(b2, _)], by unfold eB; rw [h8, h13]; exact k9 (xs := [.ofNat (a + 1), x.to]) (by simp), hst.sub (.cons_cons _ (.cons _ (.refl _)))⟩
  ·refine vQ 1 rfl (nT (aI rfl (aj (aj (ah rfl (aL rfl (aA rfl rfl rfl) (fun _ => rfl) (fun h20 => ?_) (fun h20 => ?_)))))))
   ·refine vQ 1 rfl (nT (aC rfl (aF (ad (aC rfl (aj (ah rfl (vQ 1 rfl (nT (aB (aD (au (?_)))))))))))))
    exact ay rfl rfl ⟨[], .inl ⟨by unfold eB; rw [h8, h13, h20]; rfl, rfl, rfl⟩, hst.pop⟩
   ·refine vQ 1 rfl (nT (aI rfl (ah rfl (aL rfl (aA rfl rfl rfl) (fun _ => rfl) (fun h21 => ?_) (fun h21 => ?_)))))
    ·refine vQ 1 rfl (nT (aC rfl (aj (ah rfl (vQ 1 rfl (nT (aB (aD (au (?_))))))))))
     exact ay rfl rfl ⟨[], .inl ⟨by unfold eB; rw [h8, h13, h20, h21]; rfl, rfl, rfl⟩, hst.pop⟩
    ·refine vQ 1 rfl (nT (aI rfl (aF (aK (ad (aj (ah rfl (vQ 1 rfl (aa rfl (aA rfl rfl (show _ = some (AV.int .i64 (.ofNat (a + 1))) from congrArg (fun z => some (AV.int .i64 z)) (bg ha))) rfl (lD hst rfl (dy (e := 3) (m := 1) (z := [.int .i64 0]) (cs := [_]) (by kernel_rfl) (by kernel_rfl) (by kernel_rfl) (by kernel_rfl) (bL rfl rfl rfl rfl cX)) (fun _ => rfl) (fun σ b2 hst => ?_)))))))))))
     refine vQ 1 rfl (nT (aB ?_))
     exact ay rfl rfl ⟨[(b2, _)], by unfold eB; rw [h8, h13, h20, h21]; exact k9 (xs := [.ofNat (a + 1)]) (by simp), hst.sub (.cons_cons _ (.cons _ (.refl _)))⟩
theorem Gh {G : Cx} (hG : Plain G) {K : KP} (x y : Int) {σ : av} {L : Own} (hst : St σ K L) : a7 Tryz.prog G 163 [.int .i64 x, .int .i64 y] σ fun v σ' => v = .bool false ∧ St σ' K L := by
 refine a8 hG Tryz.func163 rfl (t := (PT.leaf.put (some (.int .i64 x)) 0).put (some (.int .i64 y)) 1) (by rfl) (aj (ah rfl (vQ 1 rfl (nS rfl (vQ 1 rfl (nT (aB ?_)))))))
 exact ay rfl rfl ⟨rfl, hst⟩
theorem xO {G : Cx} (hG : Plain G) {K : KP} {k : Nat} {c : XC} (hc : eY k c) {v : AV} (hi : bC K 6 (fR K k) c.ins v) {σ : av} {L : Own} (hst : St σ K L) :
  a7 Tryz.prog G 162 [.agg [.int .i64 c.aW, v], .func 163 [] []] σ fun v σ' => ∃ u M, v = .tuple [u, .bool (eR c).isSome] ∧ kS 1 3 dE (((eR c).getD []).map .ofNat) u M ∧ St σ' K (M ++ L) := by
 have hN : ∀ i, i < c.ins.length → ∀ to ∈ dw c i, to < c.ins.length := ph hc
 have hlen := hc.len
 have hpos := hc.pos
 have htot := xk (c := c)
 obtain ⟨N, hNN⟩ : ∃ N, N = 2 * total (dw c) c.ins.length + 2 := ⟨_, rfl⟩
 have hO : eR c = wA (dw c) N (xm c.ins.length) := by rw [hNN]; rfl
 refine a8 hG Tryz.func162 rfl (t := (PT.leaf.put (some (.agg [.int .i64 c.aW, v])) 0).put (some (.func 163 [] [])) 1) (by rfl) (aj (ah rfl (bp hst rfl (cU rfl rfl) (fun _ => rfl) (fun σ b1 hst => ?_))))
 refine vQ 2 rfl (nS rfl (aa rfl (Iz 1 rfl) rfl (aa rfl (Ia rfl (hst.get 0 rfl) rfl) rfl (aa rfl (H9 hi rfl rfl rfl (e := 79) rfl) rfl (lD hst rfl (gm (e := 5) (w := 1) (z := [gS 0]) (by kernel_rfl) (by kernel_rfl) (by kernel_rfl) (by kernel_rfl) rfl rfl (by omega) (by omega)) (fun _ => rfl) (fun σ b2 hst => ?_))))))
 rw [gQ (f := gS)] at hst
 refine vQ 1 rfl (nS rfl (aa rfl (Iz 1 rfl) rfl (aa rfl (Ia rfl (hst.get 1 rfl) rfl) rfl (aa rfl (H9 hi rfl rfl rfl (e := 79) rfl) rfl (lD hst rfl (gm (e := 3) (w := 8) (z := [gI 0]) (by kernel_rfl) (by kernel_rfl) (by kernel_rfl) (by kernel_rfl) rfl rfl (by omega) (by omega)) (fun _ => rfl) (fun σ b3 hst => ?_))))))
 rw [gQ (f := gI)] at hst
 refine vQ 1 rfl (nS rfl (vQ 1 rfl (nS rfl (vQ 1 rfl (aa rfl (ej (e := 5) (m := 1) (by kernel_rfl) (by kernel_rfl) rfl rfl hpos) rfl (dM hst (.there .here) rfl (aJ rfl rfl rfl (hst.get 1 rfl) (m := 1) (by kernel_rfl) rfl (by rw [List.length_map]; simp; omega) rfl (cells' := ((List.replicate c.ins.length 0).set 0 1).map (gS)) (fb (f := gS) (v := 1) (by simp; omega) (by first | omega | rfl))) rfl (fun σ hst => ?_)))))))
 refine nT (aj (aj (ah rfl (lD hst rfl (dy (e := 3) (m := 1) (z := [.int .i64 0]) (cs := [_]) (by kernel_rfl) (by kernel_rfl) (by kernel_rfl) (by kernel_rfl) (bL rfl rfl rfl rfl cX)) (fun _ => rfl) (fun σ b4 hst => ?_)))))
 refine vQ 1 rfl (nT (aP (bu [4, 5, 8, 9, 10, 11, 12, 24, 25, 26, 27, 28, 29, 30, 31, 32, 33, 34, 35, 36, 37, 38, 39, 40, 41, 42, 43, 44, 45, 46, 47, 48, 49, 50, 51, 52, 53, 54, 55, 56, 57, 58, 59, 60, 61, 62, 63, 64, 65, 66, 67, 68, 69, 70, 71, 72, 73, 74, 75, 76, 77, 78, 79, 80, 81, 82, 83, 84, 85, 86, 87, 88, 89, 90, 91, 92, 93, 94] (fun j t σ => ∃ (s : DS) (u9 u8 : AV) (Mp Mo : Own), GM (dw c) c.ins.length s ∧ ga (dw c) c.ins.length s ≤ j ∧ s.out.length + ga (dw c) c.ins.length s ≤ N ∧ wA (dw c) N (xm c.ins.length) = wA (dw c) (j + 1) s ∧ kS 1 3 dE (s.out.map .ofNat) u8 Mo ∧ kS 1 3 dE (s.path.map .ofNat) u9 Mp ∧ t.get 8 = some (u8) ∧ t.get 9 = some (u9) ∧ St σ K (Mo ++ (Mp ++ ((b3, .row (s.gone.map gI) 3 false) :: (b2, .row (s.st.map gS) 5 false) :: (b1, .row [.int .i64 c.aW, v] 33 false) :: L)))) ((N - 1)) ⟨xm c.ins.length, _, .aq, [(b4, .row [gI 0] 3 false)], [], vI hpos, by rw [DZ]; omega, by rw [DZ]; have : (xm c.ins.length).out.length = 0 := rfl; omega, by rw [show N - 1 + 1 = N from by omega], .inl ⟨rfl, rfl, rfl⟩, (k9 (xs := [0]) (by simp)).HF, rfl, rfl, hst⟩ ?_)))
 clear hst; intro j6 t σ ar hI; obtain ⟨s, u9, u8, Mp, Mo, hw, hlj, hsz, he, hOut, hP, hv8, hv9, hst⟩ := hI
 obtain ⟨o4, o5, o8, o9, o10, o11, o12, o24, o25, o26, o27, o28, o29, o30, o31, o32, ar⟩ := ar.HE rfl rfl rfl rfl
 obtain ⟨o33, o34, o35, o36, o37, o38, o39, o40, o41, o42, o43, o44, o45, o46, o47, o48, ar⟩ := ar.HE rfl rfl rfl rfl
 obtain ⟨o49, o50, o51, o52, o53, o54, o55, o56, o57, o58, o59, o60, o61, o62, o63, o64, ar⟩ := ar.HE rfl rfl rfl rfl
 obtain ⟨o65, o66, o67, o68, o69, o70, o71, o72, o73, o74, o75, o76, o77, o78, o79, o80, ar⟩ := ar.HE rfl rfl rfl rfl
 replace ar := ar.dC rfl rfl; obtain ⟨o81, o82, o83, o84, o85, o86, o87, o88, ar⟩ := ar
 replace ar := ar.rp rfl; obtain ⟨o89, o90, o91, o92, ar⟩ := ar
 replace ar := ar.fD rfl; obtain ⟨o93, ar⟩ := ar
 replace ar := ar.fD rfl; obtain ⟨o94, ar⟩ := ar
 obtain rfl := ar.nil; clear ar
 replace hv8 : o8 = some _ := hv8; subst hv8
 replace hv9 : o9 = some _ := hv9; subst hv9
 refine aj (aj (ah rfl (vQ 1 rfl (aa rfl (wa hP rfl rfl rfl (e := 3) (by kernel_rfl) rfl) rfl (aL rfl (aA rfl rfl rfl) (fun _ => rfl) (fun h26 => ?_) (fun h26 => ?_))))))
 ·refine nT (aC rfl (aF (ad (aP (aj (ah rfl (vQ 2 rfl (aa rfl (wa hP rfl rfl rfl (e := 3) (by kernel_rfl) rfl) rfl (vQ 1 rfl ?_)))))))))
  have hlp : 0 < s.path.length := by have := bW (a := 0) h26; rwa [gy] at this
  obtain ⟨a, hla⟩ : ∃ a, s.path.getLast? = some a := by cases hq : s.path.getLast? with | none => (rw [List.getLast?_eq_none_iff.1 hq] at hlp; exact absurd hlp (Nat.lt_irrefl _)) | some a => exact ⟨a, rfl⟩
  have hla' := Ek hla
  obtain ⟨han, hsta⟩ := hw.path a (List.mem_of_getElem? hla')
  obtain ⟨g, hg⟩ : ∃ g, s.gone[a]? = some g := ⟨_, List.getElem?_eq_getElem (by rw [hw.oh]; exact han)⟩
  obtain ⟨x36, hx36⟩ := cL han
  have hpl : s.path.length ≤ ga (dw c) c.ins.length s := by unfold ga; omega
  refine Ib (e := 3) (m := 1) (hP.kx (K := K.nM Mp) fun y hy => .inr hy) (DX hla') rfl rfl rfl (congrArg (fun z => some (AV.int .i64 z)) ((congrArg (fun q => wr .i64 (Int.sub (.ofNat q) 1)) (gy s.path)).trans (nj (b := 1) (by omega) (by omega)))) (fun _ => rfl) (fun p31 vs31 hp31 hl31 hr31 => ?_)
  obtain rfl := hr31
  refine aa rfl (Ih (hst.bl.keeps) hp31 rfl rfl) rfl (vQ 1 rfl (nS rfl (aa rfl (Iz 1 rfl) rfl (aa rfl (Ia rfl (hst.bl.bl.pop.pop.get 0 rfl) rfl) rfl (vQ 1 rfl (Ib (e := 79) (m := 6) hi hx36 rfl rfl rfl rfl (fun _ => rfl) (fun p36 vs36 hp36 hl36 hr36 => ?_)))))))
  have hr36raw := hr36; have hr36' := hr36; obtain ⟨v36, rfl, hk36⟩ := hr36'
  refine aa rfl (cr hst hp36 rfl (by kernel_rfl) rfl) rfl (vQ 1 rfl (cJ rfl (It rfl rfl rfl) (fun _ => rfl) (qO hG (by omega) hr36raw hst) ?_))
  rintro u39 σ ⟨M39, hM39, hst⟩
  replace hst := hst.keeps
  have hS39 := hM39.kx (K := K.nM M39) fun y hy => .inr hy
  refine vQ 1 rfl (nT (aj (aj (ah rfl (vQ 2 rfl (aa rfl (ej (e := 3) (m := 1) (by kernel_rfl) (by kernel_rfl) rfl rfl han) rfl (aa rfl (ax rfl (hst.bl.bl.get 0 rfl) (by kernel_rfl) (kr hg (by first | omega | rfl))) rfl (vQ 1 rfl (aa rfl (H9 hS39 rfl rfl rfl (e := 3) rfl) rfl (vQ 1 rfl (af (ad ?_))))))))))))
  refine aE rfl (fun h46 => ?_) (fun h46 => ?_)
  ·refine aj (ah rfl (vQ 2 rfl (aa rfl (ej (e := 5) (m := 1) (by kernel_rfl) (by kernel_rfl) rfl rfl han) rfl (dM hst (.eS (.eS (.there .here))) rfl (aJ rfl rfl rfl (hst.bl.bl.pop.get 0 rfl) (m := 1) (by kernel_rfl) rfl (by rw [List.length_map]; rw [hw.AE]; omega) rfl (cells' := ((s.st).set a 2).map (gS)) (fb (f := gS) (v := 2) (by rw [hw.AE]; exact han) (by first | omega | rfl))) rfl (fun σ hst => ?_)))))
   refine nS rfl (vQ 2 rfl (lD hst rfl (dy (e := 3) (m := 1) (z := [.int .i64 0]) (cs := [_]) (by kernel_rfl) (by kernel_rfl) (by kernel_rfl) (by kernel_rfl) (bL rfl rfl rfl rfl cX)) (fun _ => rfl) (fun σ b5 hst => ?_)))
   obtain ⟨σ, u53, M53, happ, hOut2, hst⟩ := rf (P := Tryz.prog) (ts := #[34, 34]) (t := 34) (e := 3) (l2 := [Int.ofNat a]) hOut hst (ee (xs := [Int.ofNat a]) (.inr ⟨rfl, rfl⟩) (by simp)) dE.leaf (by simp) (by simp) (by rw [gy]; omega) rfl (by kernel_rfl) (by kernel_rfl) (by kernel_rfl)
   rw [show s.out.map Int.ofNat ++ [Int.ofNat a] = (s.out ++ [a]).map Int.ofNat from by rw [List.map_append]; rfl] at hOut2
   refine aa rfl (dK rfl rfl rfl rfl (by kernel_rfl) happ) rfl (vQ 1 rfl (nS rfl (vQ 2 rfl (aa rfl (wa hP rfl rfl rfl (e := 3) (by kernel_rfl) rfl) rfl (vQ 1 rfl ?_)))))
   obtain ⟨u58, hP2, hsl⟩ := hP.He (k := s.path.length - 1) (by rw [gy]; omega)
   rw [B7] at hP2
   refine aa rfl (aV rfl (hsl (by kernel_rfl) (by kernel_rfl) rfl (show _ = some (AV.int .i64 (.ofNat (s.path.length - 1))) from congrArg (fun z => some (AV.int .i64 z)) ((congrArg (fun q => wr .i64 (Int.sub (.ofNat q) 1)) (gy s.path)).trans (nj (b := 1) (by omega) (by omega)))))) rfl (vQ 1 rfl (nT (bz (aZ (aU ?_)))))
   replace hst := hst.weaken (KP.cQ _ _)
   have hd := Bk hg (Dz hx36 (by have := Int.ofNat.inj (eqv h46); omega))
   obtain ⟨hw2, hl2, hs2⟩ := mU hw hN hla hd
   refine aQ ⟨j6 - 1, by have : 1 ≤ j6 := (by unfold ga at hlj; omega); omega, (by (iterate 117 refine bq.put rfl ?_); exact bq.refl _ _), _, u58, u53, Mp, M53, hw2, by omega, by omega, by rw [he, show j6 + 1 = (j6 - 1 + 1) + 1 from by omega]; exact rX hla hd, hOut2, hP2, rfl, rfl, hst⟩
  ·refine aF (ad (aj (ah rfl (vQ 3 rfl (aa rfl (ej (e := 3) (m := 1) (by kernel_rfl) (by kernel_rfl) rfl rfl han) rfl (aa rfl (ax rfl (hst.bl.bl.get 0 rfl) (by kernel_rfl) (kr hg (by first | omega | rfl))) rfl ?_))))))
   have hgl : g < (eB x36 a).length := by have h1 := hw.gone a g hg; rw [ng hx36] at h1; have := zO h46; omega
   obtain ⟨to0, hto0⟩ := cL hgl
   obtain ⟨to, rfl, htn, hto⟩ := uo hc hx36 hto0
   obtain ⟨sv, hv⟩ : ∃ sv, s.st[to]? = some sv := ⟨_, List.getElem?_eq_getElem (by rw [hw.AE]; exact htn)⟩
   refine Ib (e := 3) (m := 1) hS39 hto0 rfl rfl rfl rfl (fun _ => rfl) (fun p64 vs64 hp64 hl64 hr64 => ?_)
   obtain rfl := hr64
   refine aa rfl (Ih hst hp64 rfl rfl) rfl (vQ 1 rfl (nS rfl (vQ 2 rfl (aa rfl (ej (e := 3) (m := 1) (by kernel_rfl) (by kernel_rfl) rfl rfl han) rfl (aa rfl (ax rfl (hst.bl.bl.get 0 rfl) (by kernel_rfl) (kr hg (by first | omega | rfl))) rfl (vQ 1 rfl (aa rfl (ej (e := 3) (m := 1) (by kernel_rfl) (by kernel_rfl) rfl rfl han) rfl ?_)))))))
   refine dM hst (.eS (.eS .here)) rfl (aJ rfl rfl (show _ = some [gI (g + 1)] from congrArg (fun z => some [AV.int .i64 z]) (bg (by have h1 := hw.gone a g hg; rw [ng hx36] at h1; have := xw x36 a; omega))) (hst.bl.bl.get 0 rfl) (m := 1) (by kernel_rfl) rfl (by rw [List.length_map]; rw [hw.oh]; omega) rfl (cells' := ((s.gone).set a (g + 1)).map (gI)) (fb (f := gI) (v := (g + 1)) (by rw [hw.oh]; exact han) (by first | omega | rfl))) rfl (fun σ hst => ?_)
   refine nT (aj (aj (ah rfl (vQ 3 rfl (a9 rfl (It rfl rfl rfl) (fun _ => rfl) (Gh hG _ _ hst) (fun σ hst => ?_))))))
   refine vQ 3 rfl (aa rfl (ej (e := 5) (m := 1) (by kernel_rfl) (by kernel_rfl) rfl rfl htn) rfl (aa rfl (ax rfl (hst.bl.bl.pop.get 0 rfl) (by kernel_rfl) (kr hv (by first | omega | rfl))) rfl (vQ 2 rfl (nT (aE rfl (fun h82 => ?_) (fun h82 => ?_))))))
   ·refine bz (aZ (aU ?_))
    replace hst := hst.weaken (KP.cQ _ _)
    have hd := zD hg hto (by rw [hv]; exact congrArg some (Int.ofNat.inj (eqv h82)))
    obtain ⟨hw2, hl2, hs2⟩ := mU hw hN hla hd
    refine aQ ⟨j6 - 1, by have : 1 ≤ j6 := (by unfold ga at hlj; omega); omega, (by (iterate 128 refine bq.put rfl ?_); exact bq.refl _ _), _, u9, u8, Mp, Mo, hw2, by omega, by omega, by rw [he, show j6 + 1 = (j6 - 1 + 1) + 1 from by omega]; exact rX hla hd, hOut, hP, rfl, rfl, hst⟩
   ·refine aF (ad (aj (aj (ah rfl (vQ 2 rfl (aa rfl (ej (e := 5) (m := 1) (by kernel_rfl) (by kernel_rfl) rfl rfl htn) rfl (aa rfl (ax rfl (hst.bl.bl.pop.get 0 rfl) (by kernel_rfl) (kr hv (by first | omega | rfl))) rfl (vQ 1 rfl (nT (aE rfl (fun h87 => ?_) (fun h87 => ?_)))))))))))
    ·refine aj (ah rfl (vQ 2 rfl (nT (aB (au (aD (bx (aD (au (?_))))))))))
     have hnone : eR c = none := by rw [hO, he]; exact Cv hla (yL hg hto (by rw [hv]; exact congrArg some (Int.ofNat.inj (eqv h87))))
     replace hst := hst.weaken (KP.cQ _ _)
     exact bS rfl rfl rfl ⟨_, [], by rw [hnone]; rfl, by rw [hnone]; exact .inl ⟨rfl, rfl, rfl⟩, hst.bl.bl.pop.pop.pop⟩
    ·refine aF (ad (aj (ah rfl (vQ 2 rfl (aa rfl (ej (e := 5) (m := 1) (by kernel_rfl) (by kernel_rfl) rfl rfl htn) rfl (dM hst (.eS (.eS (.there .here))) rfl (aJ rfl rfl rfl (hst.bl.bl.pop.get 0 rfl) (m := 1) (by kernel_rfl) rfl (by rw [List.length_map]; rw [hw.AE]; omega) rfl (cells' := ((s.st).set to 1).map (gS)) (fb (f := gS) (v := 1) (by rw [hw.AE]; exact htn) (by first | omega | rfl))) rfl (fun σ hst => ?_)))))))
     refine nT (ah rfl (vQ 2 rfl (lD hst rfl (dy (e := 3) (m := 1) (z := [.int .i64 0]) (cs := [_]) (by kernel_rfl) (by kernel_rfl) (by kernel_rfl) (by kernel_rfl) (bL rfl rfl rfl rfl cX)) (fun _ => rfl) (fun σ b5 hst => ?_))))
     replace hst := hst.zr
     obtain ⟨σ, u94, M94, happ, hP2, hst⟩ := rf (P := Tryz.prog) (ts := #[34, 34]) (t := 34) (e := 3) (l2 := [Int.ofNat to]) hP hst (ee (xs := [Int.ofNat to]) (.inr ⟨rfl, rfl⟩) (by simp)) dE.leaf (by simp) (by simp) (by rw [gy]; omega) rfl (by kernel_rfl) (by kernel_rfl) (by kernel_rfl)
     replace hst := hst.front
     rw [show s.path.map Int.ofNat ++ [Int.ofNat to] = (s.path ++ [to]).map Int.ofNat from by rw [List.map_append]; rfl] at hP2
     refine aa rfl (dK rfl rfl rfl rfl (by kernel_rfl) happ) rfl (vQ 1 rfl (af (aK ?_)))
     replace hst := hst.weaken (KP.cQ _ _)
     have hd := yR hg hto hv (zO (b := 2) h82) (zO (b := 1) h87)
     obtain ⟨hw2, hl2, hs2⟩ := mU hw hN hla hd
     refine aQ ⟨j6 - 1, by have : 1 ≤ j6 := (by unfold ga at hlj; omega); omega, (by (iterate 141 refine bq.put rfl ?_); exact bq.refl _ _), _, u94, u8, M94, Mo, hw2, by omega, by omega, by rw [he, show j6 + 1 = (j6 - 1 + 1) + 1 from by omega]; exact rX hla hd, hOut, hP2, rfl, rfl, hst⟩
 ·refine nT (aI rfl (bz (aZ (bc (aU (ad (aj (ah rfl (vQ 3 rfl (nT (aB ?_)))))))))))
  have hsome : eR c = some s.out := by rw [hO, he]; exact EJ (by have := bn (a := 0) h26; rw [gy] at this; omega)
  exact bS rfl rfl rfl ⟨u8, Mo, by rw [hsome]; rfl, by rw [hsome]; exact hOut, hst.sub (ig (.trans (.cons _ (.cons _ (.cons _ (.refl _)))) (List.sublist_append_right _ _)))⟩
theorem C8 {G : Cx} (hG : Plain G) {K : KP} (hgl : kP G K) {k : Nat} {c : XC} {v : AV} (hi : bC K 6 (fR K k) c.ins v)  {σ : av} {L : Own} (hst : St σ K L) :
  a7 Tryz.prog G 111 [.agg [.int .i64 c.aW, v]] σ fun v σ' => v = .bool (iN k c) ∧ St σ' K L := by
 refine a8 hG Tryz.func111 rfl (t := PT.leaf.put (some (.agg [.int .i64 c.aW, v])) 0) (by rfl) (aj (ah rfl (bp hst rfl (cU rfl rfl) (fun _ => rfl) (fun σ b1 hst => ?_))))
 refine vQ 1 rfl (nT (aj (aj (ah rfl (aa rfl (IC rfl (hst.get 0 rfl) (n := 2) (vs := [_, _]) rfl) rfl (a9 rfl (It rfl rfl rfl) (fun _ => rfl) (qe hG hgl hi hst) (fun σ hst => ?_)))))))
 refine vQ 1 rfl (nT (aE rfl (fun h7 => ?_) (fun h7 => ?_)))
 ·refine aj (ah rfl (vQ 1 rfl (nT (aB (au (?_))))))
  exact ay rfl rfl ⟨congrArg AV.bool (by unfold iN; rw [show bf (bk (cY k c) 0) = true from h7]; rfl), hst.pop⟩
 ·have hck : cY k c = 0 := eqv (a6 h7)
  refine aF (ad (aj (ah rfl (aa rfl (IC rfl (hst.get 0 rfl) (n := 2) (vs := [_, _]) rfl) rfl (cJ rfl (It rfl rfl rfl) (fun _ => rfl) (xO hG (m7 hck) hi hst) ?_)))))
  rintro _ σ ⟨u10, M10, rfl, hM10, hst⟩
  refine vQ 5 rfl (nS rfl (vQ 2 rfl (nT (aB ?_))))
  exact ay rfl rfl ⟨congrArg AV.bool (by unfold iN; rw [show bf (bk (cY k c) 0) = false from h7]; rfl), hst.bl.pop⟩
noncomputable def wX (x : Int) : Int := bif (bif (bif cd x 2 then false else true) then (bif cd 7 x then false else true) else false) then 1 else 0
theorem Gq {G : Cx} (hG : Plain G) {K : KP} (x : Int) {σ : av} {L : Own} (hst : St σ K L) : a7 Tryz.prog G 193 [.int .i64 x] σ fun v σ' => v = .int .i64 (wX x) ∧ St σ' K L := by
 refine a8 hG Tryz.func193 rfl (t := PT.leaf.put (some (.int .i64 x)) 0) (by rfl) (aj (ah rfl (vQ 1 rfl (nT (aj (aj (ah rfl (vQ 2 rfl (aL rfl (al rfl) (fun _ => rfl) (fun h5 => ?_) (fun h5 => ?_))))))))))
 ·refine vQ 3 rfl (nT (aE rfl (fun h8 => ?_) (fun h8 => ?_)))
  ·refine aj (ah rfl (vQ 1 rfl (nT (aB (au (?_))))))
   exact ay rfl rfl ⟨congrArg (AV.int .i64) (by unfold wX; simp only [h5, h8, cond_true, cond_false]), hst⟩
  ·refine aF (ad (aj (ah rfl (vQ 1 rfl (nT (aB ?_))))))
   exact ay rfl rfl ⟨congrArg (AV.int .i64) (by unfold wX; simp only [h5, h8, cond_true, cond_false]), hst⟩
 ·refine vQ 3 rfl (nT (aI rfl (aF (ad (aj (ah rfl (vQ 1 rfl (nT (aB ?_)))))))))
  exact ay rfl rfl ⟨congrArg (AV.int .i64) (by unfold wX; simp only [h5, cond_true, cond_false]), hst⟩
abbrev gZ (n : Int) : AV := .int .i64 n
noncomputable def xU (fr : List Int) : List Int → Int → Int
 | [], m => m
 | t :: r, m => xU fr r (bif cd m ((fr[t.toNat]?).getD 0) then (fr[t.toNat]?).getD 0 else m)
noncomputable def C4 (c : XC) (fr : List Int) (a : Nat) : List Int := match c.ins[a]? with | some x => fr.set a (wr .i64 (Int.add (wX x.kind) (xU fr (eB x a) 0))) | none => fr
noncomputable def qP (c : XC) : List Nat → List Int → List Int
 | [], fr => fr
 | a :: r, fr => qP c r (C4 c fr a)
noncomputable def BS (k : Nat) (c : XC) : Int :=
 bif bf (bk (cY k c) 0) then -1 else match eR c with | some out => ((qP c out (List.replicate c.ins.length 0))[0]?).getD 0 | none => -1
theorem CH {c : XC} {l : List Nat} {i a : Nat} {fr : List Int} (h : l[i]? = some a) : qP c (l.drop i) fr = qP c (l.drop (i + 1)) (C4 c fr a) := by rw [bV h]; rfl
theorem Ez {fr l : List Int} {i : Nat} {t : Int} {m : Int} (h : l[i]? = some t) : xU fr (l.drop i) m = xU fr (l.drop (i + 1)) (bif cd m ((fr[t.toNat]?).getD 0) then (fr[t.toNat]?).getD 0 else m) := by rw [bV h]; rfl
theorem F5 {G : Cx} (hG : Plain G) {K : KP} (hgl : kP G K) {k : Nat} {c : XC} {v : AV} (hi : bC K 6 (fR K k) c.ins v) {σ : av} {L : Own} (hst : St σ K L) :
  a7 Tryz.prog G 192 [.agg [.int .i64 c.aW, v], .func 193 [] []] σ fun v σ' => v = .int .i64 (BS k c) ∧ St σ' K L := by
 refine a8 hG Tryz.func192 rfl (t := (PT.leaf.put (some (.agg [.int .i64 c.aW, v])) 0).put (some (.func 193 [] [])) 1) (by rfl) (aj (ah rfl (bp hst rfl (cU rfl rfl) (fun _ => rfl) (fun σ b1 hst => ?_))))
 refine vQ 1 rfl (nT (aj (aj (ah rfl (aa rfl (IC rfl (hst.get 0 rfl) (n := 2) (vs := [_, _]) rfl) rfl (a9 rfl (It rfl rfl rfl) (fun _ => rfl) (qe hG hgl hi hst) (fun σ hst => ?_)))))))
 refine vQ 1 rfl (nT (aE rfl (fun h15 => ?_) (fun h15 => ?_)))
 ·refine aj (ah rfl (vQ 1 rfl (nT (aB (au (?_))))))
  exact ay rfl rfl ⟨congrArg (AV.int .i64) (by unfold BS; rw [show bf (bk (cY k c) 0) = true from h15]; rfl), hst.pop⟩
 ·have hck : cY k c = 0 := eqv (a6 h15)
  refine aF (ad (aj (ah rfl (aa rfl (IC rfl (hst.get 0 rfl) (n := 2) (vs := [_, _]) rfl) rfl (cJ rfl (It rfl rfl rfl) (fun _ => rfl) (xO hG (m7 hck) hi hst) ?_)))))
  rintro _ σ ⟨u17, M17, rfl, hM17, hst⟩
  refine vQ 5 rfl (nT (aj (aj (ah rfl (vQ 1 rfl (aL rfl (dI rfl) (fun _ => rfl) (fun h22 => ?_) (fun h22 => ?_)))))))
  ·refine nT (aC rfl (aj (ah rfl (vQ 1 rfl (nT (aB (au (?_))))))))
   exact ay rfl rfl ⟨congrArg (AV.int .i64) (by unfold BS; rw [show bf (bk (cY k c) 0) = false from h15]; show _ = (match eR c with | some out => _ | none => _); rw [show eR c = none from by have := mn h22; cases hq : eR c with | none => rfl | some q => (rw [hq] at this; cases this)]), hst.bl.pop⟩
  ·refine nT (aI rfl (aF (ad (aj (ah rfl ?_)))))
   obtain ⟨out, hout⟩ := Option.isSome_iff_exists.1 (fY h22)
   have hR := oQ (ph (m7 hck)) (vI (m7 hck).pos) (show wA _ _ _ = some out from hout)
   have hlen := (m7 hck).len; have hpos := (m7 hck).pos
   rw [hout] at hM17; replace hM17 : kS 1 3 dE (out.map Int.ofNat) u17 M17 := hM17
   refine aa rfl (Iz 1 rfl) rfl (aa rfl (Ia rfl (hst.bl.get 0 rfl) rfl) rfl (aa rfl (H9 hi rfl rfl rfl (e := 79) rfl) rfl (lD hst rfl (gm (e := 3) (w := 8) (z := [gZ 0]) (by kernel_rfl) (by kernel_rfl) (by kernel_rfl) (by kernel_rfl) rfl rfl (by omega) (by omega)) (fun _ => rfl) (fun σ b2 hst => ?_))))
   rw [gQ (f := gZ)] at hst
   refine vQ 1 rfl (nT (aj (aj (ah rfl (vQ 1 rfl (aa rfl (wa hM17 rfl rfl rfl (e := 3) (by kernel_rfl) rfl) rfl (vQ 1 rfl (nT (aP (bu [9, 10, 12, 29, 30, 31, 32, 33, 34, 35, 36, 37, 38, 39, 40, 41, 42, 43, 44, 45, 46, 47, 48, 49, 50, 51, 52, 53, 54, 55, 56, 57, 58, 59, 60, 61, 62, 63, 64, 65] (fun j t σ => ∃ (i : Nat) (fr : List Int), j + i = out.length ∧ fr.length = c.ins.length ∧ qP c out (List.replicate c.ins.length 0) = qP c (out.drop i) fr ∧ t.get 29 = some (.int .i64 (.ofNat i)) ∧ St σ K ((b2, .row (fr.map gZ) 3 false) :: (M17 ++ (b1, .row [.int .i64 c.aW, v] 33 false) :: L))) (out.length) ⟨0, _, rfl, by simp, rfl, rfl, hst⟩ ?_))))))))))
   clear hst; intro j8 t σ ar hI; obtain ⟨i, fr, hj8, hfl, he8, hv29, hst⟩ := hI
   obtain ⟨o9, o10, o12, o29, o30, o31, o32, o33, o34, o35, o36, o37, o38, o39, o40, o41, ar⟩ := ar.HE rfl rfl rfl rfl
   obtain ⟨o42, o43, o44, o45, o46, o47, o48, o49, o50, o51, o52, o53, o54, o55, o56, o57, ar⟩ := ar.HE rfl rfl rfl rfl
   replace ar := ar.dC rfl rfl; obtain ⟨o58, o59, o60, o61, o62, o63, o64, o65, ar⟩ := ar
   obtain rfl := ar.nil; clear ar
   replace hv29 : o29 = some _ := hv29; subst hv29
   refine aj (ah rfl ?_)
   skip
   refine aL rfl (aA rfl rfl rfl) (fun _ => rfl) (fun h30 => ?_) (fun h30 => ?_)
   ·refine nT (aj (aC rfl (aF (ad (aj (aP (aj (ah rfl ?_))))))))
    obtain ⟨a, hxa⟩ := cL (show i < out.length from by have := bW h30; rwa [gy] at this)
    have han := hR.lt a (List.mem_of_getElem? hxa)
    obtain ⟨x36, hx36⟩ := cL han
    refine Ib (e := 3) (m := 1) (hM17.kx (K := K.nM M17) fun y hy => .inr hy) (DX hxa) rfl rfl rfl rfl (fun _ => rfl) (fun p31 vs31 hp31 hl31 hr31 => ?_)
    obtain rfl := hr31
    refine aa rfl (Ih (hst.pop.keeps) hp31 rfl rfl) rfl (vQ 1 rfl (nS rfl (vQ 1 rfl (nT (aj (aj (ah rfl (aa rfl (Iz 1 rfl) rfl (aa rfl (Ia rfl (hst.pop.bl.get 0 rfl) rfl) rfl ?_)))))))))
    refine vQ 1 rfl (Ib (e := 79) (m := 6) hi hx36 rfl rfl rfl rfl (fun _ => rfl) (fun p36 vs36 hp36 hl36 hr36 => ?_))
    have hr36raw := hr36; have hr36' := hr36; obtain ⟨v36, rfl, hk36⟩ := hr36'
    refine aa rfl (cr hst hp36 rfl (by kernel_rfl) rfl) rfl (vQ 1 rfl (cJ rfl (It rfl rfl rfl) (fun _ => rfl) (qO hG (by omega) hr36raw hst) ?_))
    rintro u39 σ ⟨M39, hM39, hst⟩
    replace hst := hst.keeps
    have hS39 := hM39.kx (K := K.nM M39) fun y hy => .inr hy
    refine aa rfl (H9 hS39 rfl rfl rfl (e := 3) rfl) rfl (vQ 1 rfl (nT (aP ?_)))
    obtain ⟨LL2, hst, hLL2⟩ := hst.named
    refine bu [10, 12, 41, 42, 43, 44, 45, 46, 47, 48, 49, 50, 51] (fun j t σ => ∃ (i2 : Nat) (m : Int), j + i2 = (eB x36 a).length ∧ xU fr (eB x36 a) 0 = xU fr ((eB x36 a).drop i2) m ∧ t.get 10 = some (.int .i64 m) ∧ t.get 41 = some (.int .i64 (.ofNat i2)) ∧ St σ (K.nM M39) LL2) ((eB x36 a).length) ⟨0, 0, rfl, rfl, rfl, rfl, hst⟩ ?_
    clear hst; intro j12 t σ ar hI; obtain ⟨i2, m, hj12, he12, hv10, hv41, hst⟩ := hI
    subst hLL2
    replace ar := ar.dC rfl rfl; obtain ⟨o10, o12, o41, o42, o43, o44, o45, o46, ar⟩ := ar
    replace ar := ar.rp rfl; obtain ⟨o47, o48, o49, o50, ar⟩ := ar
    replace ar := ar.fD rfl; obtain ⟨o51, ar⟩ := ar
    obtain rfl := ar.nil; clear ar
    replace hv10 : o10 = some _ := hv10; subst hv10
    replace hv41 : o41 = some _ := hv41; subst hv41
    refine aj (ah rfl (aL rfl (aA rfl rfl rfl) (fun _ => rfl) (fun h42 => ?_) (fun h42 => ?_)))
    ·refine nT (aj (aC rfl (aF (ad (aj (aP (aj (ah rfl ?_))))))))
     obtain ⟨x43, hx43, hi43⟩ := dv h42
     refine Ib (e := 3) (m := 1) hS39 hx43 rfl rfl rfl rfl (fun _ => rfl) (fun p43 vs43 hp43 hl43 hr43 => ?_)
     obtain rfl := hr43; obtain ⟨to, rfl, htn, hto⟩ := uo (m7 hck) hx36 hx43; obtain ⟨y, hy⟩ := cL (show to < fr.length from by omega)
     refine aa rfl (Ih hst hp43 rfl rfl) rfl (vQ 1 rfl (nT (ah rfl (vQ 3 rfl (aa rfl (ej (e := 3) (m := 1) (by kernel_rfl) (by kernel_rfl) rfl rfl htn) rfl (aa rfl (ax rfl (hst.get 0 rfl) (by kernel_rfl) (kr hy (by first | omega | rfl))) rfl (aa rfl (Hc rfl rfl rfl rfl) rfl (vQ 1 rfl (af (aK (ad (ah rfl ?_))))))))))))
     refine vQ 2 rfl (af (aQ ⟨j12 - 1, by omega, (by (iterate 26 refine bq.put rfl ?_); exact bq.refl _ _), i2 + 1, _, by omega, by rw [he12, Ez hx43, show (Int.ofNat to).toNat = to from rfl, hy]; rfl, rfl, congrArg (fun z => some (AV.int .i64 z)) (bg (by have := hS39.bG; omega)), hst⟩))
    ·refine nT (aj (aI rfl (bz (aZ (bc (aU (ad (ah rfl ?_))))))))
     replace hst := hst.weaken (KP.cQ _ _)
     refine vQ 3 rfl (aa rfl (Iz 1 rfl) rfl (aa rfl (Ia rfl (hst.pop.bl.get 0 rfl) rfl) rfl (vQ 1 rfl (Ib (e := 79) (m := 6) hi hx36 rfl rfl rfl rfl (fun _ => rfl) (fun p58 vs58 hp58 hl58 hr58 => ?_)))))
     have hr58raw := hr58; have hr58' := hr58; obtain ⟨v58, rfl, hk58⟩ := hr58'
     refine bD hp58 rfl rfl rfl (k := 0) (by kernel_rfl) (lb rfl) (fun _ => rfl) (fun p59 hp59 => ?_)
     refine aa rfl (Ih hst hp59 rfl rfl) rfl (a9 rfl (It rfl rfl rfl) (fun _ => rfl) (Gq hG _ hst) (fun σ hst => ?_))
     refine vQ 2 rfl (aa rfl (ej (e := 3) (m := 1) (by kernel_rfl) (by kernel_rfl) rfl rfl han) rfl (dM hst .here rfl (aJ rfl rfl rfl (hst.get 0 rfl) (m := 1) (by kernel_rfl) rfl (by rw [List.length_map]; omega) rfl (cells' := ((fr).set a (wr .i64 (Int.add (wX x36.kind) m))).map (gZ)) (fb (f := gZ) (v := (wr .i64 (Int.add (wX x36.kind) m))) (by omega) (by first | omega | rfl))) rfl (fun σ hst => ?_)))
     refine af (aK (ad (ah rfl (vQ 2 rfl (af ?_)))))
     refine aQ ⟨j8 - 1, by have := bW h30; rw [gy] at this; omega, (by (iterate 83 refine bq.put rfl ?_); exact bq.refl _ _), i + 1, _, by have := bW h30; rw [gy] at this; omega, by rw [List.length_set]; exact hfl, by rw [he8, CH hxa]; unfold C4; rw [hx36]; show qP c _ (fr.set a (wr .i64 (Int.add (wX x36.kind) (xU fr (eB x36 a) 0)))) = _; rw [show xU fr (eB x36 a) 0 = m from by rw [he12, eD (bn h42)]; rfl], congrArg (fun z => some (AV.int .i64 z)) (bg (by have := bW h30; have := hM17.bG; omega)), hst⟩
   ·refine nT (aj (aI rfl (bz (aZ (bc (aU (ad (aj (ah rfl (vQ 1 rfl ?_))))))))))
    obtain ⟨y0, hy0⟩ := cL (show 0 < fr.length from by omega)
    refine aa rfl (ej (e := 3) (m := 1) (by kernel_rfl) (by kernel_rfl) rfl rfl hpos) rfl (aa rfl (ax rfl (hst.get 0 rfl) (by kernel_rfl) (kr hy0 (by first | omega | rfl))) rfl (vQ 1 rfl (nT (aB ?_))))
    exact ay rfl rfl ⟨congrArg (AV.int .i64) (by unfold BS; rw [show bf (bk (cY k c) 0) = false from h15]; show _ = (match eR c with | some out => _ | none => _); rw [hout]; show _ = ((qP c out (List.replicate c.ins.length 0))[0]?).getD 0; rw [he8, eD (by have := bn h30; rwa [gy] at this)]; show y0 = (fr[0]?).getD 0; rw [hy0]; rfl), hst.pop.bl.pop⟩
theorem zV {G : Cx} (hG : Plain G) {K : KP} (hgl : kP G K) {k : Nat} {c : XC} {v : AV} (hi : bC K 6 (fR K k) c.ins v)  {σ : av} {L : Own} (hst : St σ K L) :
  a7 Tryz.prog G 140 [.agg [.int .i64 c.aW, v]] σ fun v σ' => v = .int .i64 (BS k c) ∧ St σ' K L := by
 refine a8 hG Tryz.func140 rfl (t := PT.leaf.put (some (.agg [.int .i64 c.aW, v])) 0) (by rfl) (aj (ah rfl (bp hst rfl (cU rfl rfl) (fun _ => rfl) (fun σ b1 hst => ?_))))
 refine vQ 1 rfl (nS rfl (aa rfl (IC rfl (hst.get 0 rfl) (n := 2) (vs := [_, _]) rfl) rfl (a9 rfl (It rfl rfl rfl) (fun _ => rfl) (F5 hG hgl hi hst) (fun σ hst => ?_))))
 refine vQ 1 rfl (nT (aB ?_))
 exact ay rfl rfl ⟨rfl, hst.pop⟩
end Go.Ev
namespace Go.Ev
variable [Env]
theorem EL {P : Program} {G : Cx} {ev : Operand → Option AV} {σ : av} {s d : TypeId} {e : Nat} {x : Operand} {l : List Nat} (hk : kindOf P (.convert s d x) = .gi) (hs : P.underlying s = some .string) (hd : P.underlying d = some (.slice e)) (he : P.underlying e = some (.int .u8)) (hc : Nat.beq (P.cellsOf e) 1 = true) (hx : ev x = some (.str l)) :
  cZ P G ev σ (.convert s d x) = .val (.slice σ.next 0 (b0 l) (.upto 1)) (σ.alloc (.row (l.map gS) e true)) := by
 refine ie hk ?_
 have hm : ub (fun c => AV.int .u8 (Int.ofNat c)) l = l.map gS := iV _ _
 simp only [eI, hx, jD, hs, hd, he, hc, cond_true, hm]
theorem DG {s : List Nat} {i m c n : Nat} (h : oV (s.drop i) m = some n) (hc : s[i]? = some c) : (48 ≤ c ∧ c ≤ 57) ∧ oV (s.drop (i + 1)) (10 * m + (c - 48)) = some n := by
 by_cases hd : 48 ≤ c ∧ c ≤ 57
 ·exact ⟨hd, by rw [← rV hc hd]; exact h⟩
 ·rw [pF hc hd] at h; cases h
theorem Dw {s : List Nat} {n : Nat} (h : l7 s = some n) : 0 < s.length ∧ s.length ≤ 4 ∧ oV s 0 = some n := by
 unfold l7 at h
 split at h
 ·cases h
 ·rename_i hh
  exact ⟨by omega, by omega, h⟩
theorem Gu {c m : Nat} (h : 48 ≤ c ∧ c ≤ 57) (hm : m ≤ 100000) : wr .i64 (Int.add (wr .i64 (Int.mul (.ofNat m) 10)) (wr .i64 (wr .u8 (Int.sub (.ofNat c) 48)))) = .ofNat (10 * m + (c - 48)) := by
 have e1 : Int.sub (.ofNat c) 48 = .ofNat (c - 48) := by show (c : Int) - 48 = ((c - 48 : Nat) : Int); omega
 have e2 : Int.mul (.ofNat m) 10 = .ofNat (10 * m) := by show (m : Int) * 10 = ((10 * m : Nat) : Int); omega
 have w1 : wr .u8 (.ofNat (c - 48)) = .ofNat (c - 48) := by
  show (bif Nat.ble (c - 48) 255 then _ else _) = _
  rw [show Nat.ble (c - 48) 255 = true by rw [Nat.ble_eq]; omega]; rfl
 have w2 : ∀ q : Nat, q ≤ 9223372036854775807 → wr .i64 (.ofNat q) = .ofNat q := fun q hq => by
  show (bif Nat.ble q 9223372036854775807 then _ else _) = _
  rw [show Nat.ble q 9223372036854775807 = true by rw [Nat.ble_eq]; exact hq]; rfl
 rw [e1, e2, w1, w2 _ (by omega), w2 _ (by omega)]
 show wr .i64 (.ofNat (10 * m + (c - 48))) = _
 exact w2 _ (by omega)
theorem F4 {c : Nat} (h : 48 ≤ c ∧ c ≤ 57) : cd 9 (wr .u8 (Int.sub (.ofNat c) 48)) = false := by
 have e1 : Int.sub (.ofNat c) 48 = .ofNat (c - 48) := by show (c : Int) - 48 = ((c - 48 : Nat) : Int); omega
 have w1 : wr .u8 (.ofNat (c - 48)) = .ofNat (c - 48) := by
  show (bif Nat.ble (c - 48) 255 then _ else _) = _
  rw [show Nat.ble (c - 48) 255 = true by rw [Nat.ble_eq]; omega]; rfl
 rw [e1, w1, ek, decide_eq_false_iff_not]
 show ¬ (9 : Int) < ((c - 48 : Nat) : Int)
 omega
def kp {α : Type} (f : α → Int) (l : List α) (i : Nat) : List Int := (l.take i).map f ++ List.replicate (l.length - i) 0
theorem sd {α : Type} (f : α → Int) (l : List α) : kp f l 0 = List.replicate l.length 0 := by unfold kp; simp
theorem uk {α : Type} {f : α → Int} {l : List α} {i : Nat} (h : l.length ≤ i) : kp f l i = l.map f := by unfold kp; rw [List.take_of_length_le h, show l.length - i = 0 by omega]; simp
theorem nJ {α : Type} {f : α → Int} {l : List α} {i : Nat} (h : i ≤ l.length) : (kp f l i).length = l.length := by unfold kp; rw [List.length_append, List.length_map, List.length_take, List.length_replicate]; omega
theorem uj {α : Type} {f : α → Int} {l : List α} {i : Nat} {x : α} (h : l[i]? = some x) : (kp f l i).set i (f x) = kp f l (i + 1) := by
 have hlt := (List.getElem?_eq_some_iff.1 h).1
 unfold kp
 have hA : ((l.take i).map f).length = i := by rw [List.length_map, List.length_take]; omega
 rw [List.set_append_right _ _ (by omega), hA, Nat.sub_self, show l.length - i = (l.length - (i + 1)) + 1 by omega, List.replicate_succ, List.set_cons_zero, List.take_add_one, h, List.map_append]
 simp
theorem St.FA {σ : av} {K : KP} {x y : Nat × bF} {L : Own} (h : St σ K (x :: y :: L)) : St σ K (x :: L) := (h.perm (List.Perm.swap ..)).pop
end Go.Ev
namespace Go.Ev
variable [Env]
open Go.Proofs
set_option maxRecDepth 4000
set_option maxHeartbeats 8000000
theorem iR {G : Cx} (hG : Plain G) {K : KP} (b : Bool) {σ : av} {L : Own} (hst : St σ K L) : a7 Tryz.prog G 259 [.bool b] σ fun v σ' => v = .int .i64 (mX b) ∧ St σ' K L := by
 refine a8 hG Tryz.func259 rfl (t := PT.leaf.put (some (.bool b)) 0) (by rfl) (aj (ah rfl (vQ 1 rfl (nT (aj (aj (ah rfl (vQ 1 rfl (nT (aE rfl (fun h3 => ?_) (fun h3 => ?_)))))))))))
 ·refine aj (ah rfl (vQ 1 rfl (nT (aB (au (?_))))))
  exact ay rfl rfl ⟨by rw [h3]; rfl, hst⟩
 ·refine aF (ad (aj (ah rfl (vQ 1 rfl (nT (aB ?_))))))
  exact ay rfl rfl ⟨by rw [h3]; rfl, hst⟩
theorem FI {G : Cx} (hG : Plain G) {K : KP} (op a : Int) {σ : av} {L : Own} (hst : St σ K L) : a7 Tryz.prog G 225 [.int .i64 op, .int .i64 a] σ fun v σ' => v = .int .i64 (B6 op a) ∧ St σ' K L := by
 refine a8 hG Tryz.func225 rfl (t := (PT.leaf.put (some (.int .i64 op)) 0).put (some (.int .i64 a)) 1) (by rfl) (aj (ah rfl (vQ 1 rfl (nT (aj (aj (ah rfl (vQ 2 rfl (nT (aE rfl (fun h6 => ?_) (fun h6 => ?_)))))))))))
 ·refine aj (ah rfl (vQ 1 rfl ?_))
  refine aa rfl (fH (j := .i64) (k := .u64) (by kernel_rfl) (by kernel_rfl) (by kernel_rfl) rfl) rfl ?_
  refine vQ 1 rfl ?_
  refine aa rfl (fH (j := .u64) (k := .i64) (by kernel_rfl) (by kernel_rfl) (by kernel_rfl) rfl) rfl ?_
  refine vQ 1 rfl (nT (aB (au (?_))))
  exact ay rfl rfl ⟨congrArg (AV.int .i64) (by unfold B6; rw [h6]; rfl), hst⟩
 ·refine aF (ad (aj (ah rfl (vQ 2 rfl (a9 rfl (It rfl rfl rfl) (fun _ => rfl) (iR hG _ hst) (fun σ hst => ?_))))))
  refine vQ 1 rfl (nT (aB ?_))
  exact ay rfl rfl ⟨congrArg (AV.int .i64) (by unfold B6; rw [h6]; rfl), hst⟩
theorem D2 {G : Cx} (hG : Plain G) {K : KP} (op a b : Int) {σ : av} {L : Own} (hst : St σ K L) : a7 Tryz.prog G 226 [.int .i64 op, .int .i64 a, .int .i64 b] σ fun v σ' => v = .int .i64 (lR op a b) ∧ St σ' K L := by
 refine a8 hG Tryz.func226 rfl (t := ((PT.leaf.put (some (.int .i64 op)) 0).put (some (.int .i64 a)) 1).put (some (.int .i64 b)) 2) (by rfl) (aj (ah rfl (vQ 1 rfl (nS rfl (vQ 1 rfl ?_)))))
 refine aa rfl (fH (j := .i64) (k := .u64) (by kernel_rfl) (by kernel_rfl) (by kernel_rfl) rfl) rfl ?_
 refine vQ 1 rfl ?_
 refine aa rfl (fH (j := .i64) (k := .u64) (by kernel_rfl) (by kernel_rfl) (by kernel_rfl) rfl) rfl ?_
 refine vQ 2 rfl (nT (aj (aj (ah rfl (vQ 1 rfl (nT (aP (aj (ah rfl (aL rfl (aA rfl rfl rfl) (fun _ => rfl) (fun h15 => ?_) (fun h15 => ?_)))))))))))
 ·refine vQ 1 rfl (nT (aC rfl (aj (ah rfl (vQ 2 rfl (aL rfl (al rfl) (fun _ => rfl) (fun h18 => ?_) (fun h18 => ?_)))))))
  ·refine vQ 3 rfl (a9 rfl (It rfl rfl rfl) (fun _ => rfl) (iR hG _ hst) (fun σ hst => ?_))
   refine vQ 1 rfl (nT (aB (aD (au (?_)))))
   exact ay rfl rfl ⟨congrArg (AV.int .i64) (by unfold lR; simp only [h15, cond_true, cond_false]; simp only [bf]; simp only [h18, cond_true, cond_false]), hst⟩
  ·refine vQ 3 rfl (a9 rfl (It rfl rfl rfl) (fun _ => rfl) (iR hG _ hst) (fun σ hst => ?_))
   refine vQ 1 rfl (nT (aB (aD (au (?_)))))
   exact ay rfl rfl ⟨congrArg (AV.int .i64) (by unfold lR; simp only [h15, cond_true, cond_false]; simp only [bf]; simp only [h18, cond_true, cond_false]), hst⟩
 ·refine vQ 1 rfl (nT (aI rfl (aj (ah rfl (aL rfl (aA rfl rfl rfl) (fun _ => rfl) (fun h24 => ?_) (fun h24 => ?_))))))
  ·refine vQ 1 rfl (nT (aC rfl (aj (ah rfl (vQ 2 rfl (aL rfl (al rfl) (fun _ => rfl) (fun h27 => ?_) (fun h27 => ?_)))))))
   ·refine vQ 3 rfl (a9 rfl (It rfl rfl rfl) (fun _ => rfl) (iR hG _ hst) (fun σ hst => ?_))
    refine vQ 1 rfl (nT (aB (aD (au (?_)))))
    exact ay rfl rfl ⟨congrArg (AV.int .i64) (by unfold lR; simp only [h15, h24, cond_true, cond_false]; simp only [bf]; simp only [h27, cond_true, cond_false]), hst⟩
   ·refine vQ 3 rfl (a9 rfl (It rfl rfl rfl) (fun _ => rfl) (iR hG _ hst) (fun σ hst => ?_))
    refine vQ 1 rfl (nT (aB (aD (au (?_)))))
    exact ay rfl rfl ⟨congrArg (AV.int .i64) (by unfold lR; simp only [h15, h24, cond_true, cond_false]; simp only [bf]; simp only [h27, cond_true, cond_false]), hst⟩
  ·refine vQ 1 rfl (nT (aI rfl (aj (ah rfl (aL rfl (aA rfl rfl rfl) (fun _ => rfl) (fun h33 => ?_) (fun h33 => ?_))))))
   ·refine vQ 1 rfl (nT (aC rfl (aj (ah rfl (vQ 3 rfl (a9 rfl (It rfl rfl rfl) (fun _ => rfl) (iR hG _ hst) (fun σ hst => ?_)))))))
    refine vQ 1 rfl (nT (aB (aD (au (?_)))))
    exact ay rfl rfl ⟨congrArg (AV.int .i64) (by unfold lR; simp only [h15, h24, h33, cond_true, cond_false]; (first | done | rfl)), hst⟩
   ·refine vQ 1 rfl (nT (aI rfl (aj (ah rfl (aL rfl (aA rfl rfl rfl) (fun _ => rfl) (fun h39 => ?_) (fun h39 => ?_))))))
    ·refine vQ 1 rfl (nT (aC rfl (aj (ah rfl (vQ 3 rfl (a9 rfl (It rfl rfl rfl) (fun _ => rfl) (iR hG _ hst) (fun σ hst => ?_)))))))
     refine vQ 1 rfl (nT (aB (aD (au (?_)))))
     exact ay rfl rfl ⟨congrArg (AV.int .i64) (by unfold lR; simp only [h15, h24, h33, h39, cond_true, cond_false]; (first | done | rfl)), hst⟩
    ·refine vQ 1 rfl (nT (aI rfl (aj (ah rfl (aL rfl (aA rfl rfl rfl) (fun _ => rfl) (fun h45 => ?_) (fun h45 => ?_))))))
     ·refine vQ 1 rfl (nT (aC rfl (aj (ah rfl (vQ 3 rfl (a9 rfl (It rfl rfl rfl) (fun _ => rfl) (iR hG _ hst) (fun σ hst => ?_)))))))
      refine vQ 1 rfl (nT (aB (aD (au (?_)))))
      exact ay rfl rfl ⟨congrArg (AV.int .i64) (by unfold lR; simp only [h15, h24, h33, h39, h45, cond_true, cond_false]; (first | done | rfl)), hst⟩
     ·refine vQ 1 rfl (nT (aI rfl (aj (ah rfl (aL rfl (aA rfl rfl rfl) (fun _ => rfl) (fun h51 => ?_) (fun h51 => ?_))))))
      ·refine vQ 1 rfl (nT (aC rfl (aj (ah rfl (vQ 3 rfl (a9 rfl (It rfl rfl rfl) (fun _ => rfl) (iR hG _ hst) (fun σ hst => ?_)))))))
       refine vQ 1 rfl (nT (aB (aD (au (?_)))))
       exact ay rfl rfl ⟨congrArg (AV.int .i64) (by unfold lR; simp only [h15, h24, h33, h39, h45, h51, cond_true, cond_false]; (first | done | rfl)), hst⟩
      ·refine vQ 1 rfl (nT (aI rfl (aj (ah rfl (aL rfl (aA rfl rfl rfl) (fun _ => rfl) (fun h57 => ?_) (fun h57 => ?_))))))
       ·refine vQ 1 rfl (nT (aC rfl (aj (ah rfl (vQ 3 rfl ?_)))))
        refine aa rfl (fH (j := .u64) (k := .i64) (by kernel_rfl) (by kernel_rfl) (by kernel_rfl) rfl) rfl ?_
        refine vQ 1 rfl (nT (aB (aD (au (?_)))))
        exact ay rfl rfl ⟨congrArg (AV.int .i64) (by unfold lR; simp only [h15, h24, h33, h39, h45, h51, h57, cond_true, cond_false]; (first | done | rfl)), hst⟩
       ·refine vQ 1 rfl (nT (aI rfl (aj (ah rfl (aL rfl (aA rfl rfl rfl) (fun _ => rfl) (fun h63 => ?_) (fun h63 => ?_))))))
        ·refine vQ 1 rfl (nT (aC rfl (aj (ah rfl (vQ 3 rfl ?_)))))
         refine aa rfl (fH (j := .u64) (k := .i64) (by kernel_rfl) (by kernel_rfl) (by kernel_rfl) rfl) rfl ?_
         refine vQ 1 rfl (nT (aB (aD (au (?_)))))
         exact ay rfl rfl ⟨congrArg (AV.int .i64) (by unfold lR; simp only [h15, h24, h33, h39, h45, h51, h57, h63, cond_true, cond_false]; (first | done | rfl)), hst⟩
        ·refine vQ 1 rfl (nT (aI rfl (aj (ah rfl (aL rfl (aA rfl rfl rfl) (fun _ => rfl) (fun h69 => ?_) (fun h69 => ?_))))))
         ·refine vQ 1 rfl (nT (aC rfl (aj (ah rfl (vQ 3 rfl ?_)))))
          refine aa rfl (fH (j := .u64) (k := .i64) (by kernel_rfl) (by kernel_rfl) (by kernel_rfl) rfl) rfl ?_
          refine vQ 1 rfl (nT (aB (aD (au (?_)))))
          exact ay rfl rfl ⟨congrArg (AV.int .i64) (by unfold lR; simp only [h15, h24, h33, h39, h45, h51, h57, h63, h69, cond_true, cond_false]; (first | done | rfl)), hst⟩
         ·refine vQ 1 rfl (nT (aI rfl (aj (ah rfl (aL rfl (aA rfl rfl rfl) (fun _ => rfl) (fun h75 => ?_) (fun h75 => ?_))))))
          ·refine vQ 1 rfl (nT (aC rfl (aj (ah rfl (vQ 3 rfl ?_)))))
           refine aa rfl (fH (j := .u64) (k := .i64) (by kernel_rfl) (by kernel_rfl) (by kernel_rfl) rfl) rfl ?_
           refine vQ 1 rfl (nT (aB (aD (au (?_)))))
           exact ay rfl rfl ⟨congrArg (AV.int .i64) (by unfold lR; simp only [h15, h24, h33, h39, h45, h51, h57, h63, h69, h75, cond_true, cond_false]; (first | done | rfl)), hst⟩
          ·refine vQ 1 rfl (nT (aI rfl (aj (ah rfl (aL rfl (aA rfl rfl rfl) (fun _ => rfl) (fun h81 => ?_) (fun h81 => ?_))))))
           ·refine vQ 1 rfl (nT (aC rfl (aj (ah rfl (vQ 3 rfl ?_)))))
            refine aa rfl (fH (j := .u64) (k := .i64) (by kernel_rfl) (by kernel_rfl) (by kernel_rfl) rfl) rfl ?_
            refine vQ 1 rfl (nT (aB (aD (au (?_)))))
            exact ay rfl rfl ⟨congrArg (AV.int .i64) (by unfold lR; simp only [h15, h24, h33, h39, h45, h51, h57, h63, h69, h75, h81, cond_true, cond_false]; (first | done | rfl)), hst⟩
           ·refine vQ 1 rfl (nT (aI rfl (aF (aK (ad (aj (ah rfl (vQ 3 rfl ?_))))))))
            refine aa rfl (fH (j := .u64) (k := .i64) (by kernel_rfl) (by kernel_rfl) (by kernel_rfl) rfl) rfl ?_
            refine vQ 1 rfl (nT (aB ?_))
            exact ay rfl rfl ⟨congrArg (AV.int .i64) (by unfold lR; simp only [h15, h24, h33, h39, h45, h51, h57, h63, h69, h75, h81, cond_true, cond_false]; (first | done | rfl)), hst⟩
theorem HC {G : Cx} (hG : Plain G) {K : KP} {l : List Int} {v : AV} (hl : bC K 1 dE l v) (op : Int) {σ : av} {L : Own} (hst : St σ K L) : a7 Tryz.prog G 168 [.int .i64 op, v] σ fun v σ' => v = .tuple [.int .i64 (pb op l).1, .int .i64 (pb op l).2] ∧ St σ' K L := by
 refine a8 hG Tryz.func168 rfl (t := (PT.leaf.put (some (.int .i64 op)) 0).put (some (v)) 1) (by rfl) (aj (ah rfl (vQ 2 rfl (nT (aj (aP (aj (ah rfl (vQ 2 rfl (aL rfl (al rfl) (fun _ => rfl) (fun h9 => ?_) (fun h9 => ?_)))))))))))
 ·refine vQ 5 rfl (aa rfl (H9 hl rfl rfl rfl (e := 2) rfl) rfl (vQ 3 rfl (nT (aE rfl (fun h6 => ?_) (fun h6 => ?_)))))
  ·refine aj (ah rfl (vQ 2 rfl ?_))
   obtain ⟨x20, hx20⟩ := cL (show 0 < l.length from by have := Int.ofNat.inj (eqv (b := .ofNat 1) h6); omega)
   refine Ib (e := 2) (m := 1) hl hx20 rfl rfl rfl rfl (fun _ => rfl) (fun p20 vs20 hp20 hl20 hr20 => ?_)
   obtain rfl := hr20
   refine aa rfl (Ih hst hp20 rfl rfl) rfl (a9 rfl (It rfl rfl rfl) (fun _ => rfl) (FI hG _ _ hst) (fun σ hst => ?_))
   refine vQ 2 rfl (nT (aB (aD (au (?_)))))
   exact bS rfl rfl rfl ⟨by rw [show pb op l = (B6 op x20, 0) from by unfold pb; simp only [bf]; simp only [h9, h6, cond_true]; rw [hx20]; (first | done | rfl)], hst⟩
  ·refine aj (ah rfl (vQ 2 rfl (aL rfl (al rfl) (fun _ => rfl) (fun h26 => ?_) (fun h26 => ?_))))
   ·refine vQ 3 rfl (aL rfl (al rfl) (fun _ => rfl) (fun h30 => ?_) (fun h30 => ?_))
    ·refine vQ 1 rfl (aa rfl (H9 hl rfl rfl rfl (e := 2) rfl) rfl (vQ 3 rfl (nT (aE rfl (fun h23 => ?_) (fun h23 => ?_)))))
     ·refine aj (aR (l := [(0, []), (1, []), (2, []), (3, []), (4, []), (5, []), (6, []), (7, []), (8, []), (9, [])]) (by kernel_rfl) (by kernel_rfl) (wQ 2 rfl ?_))
      have hl2 : l.length = 2 := Int.ofNat.inj (eqv (b := .ofNat 2) h23)
      obtain ⟨x37, hx37⟩ := cL (show 0 < l.length from by omega)
      obtain ⟨x40, hx40⟩ := cL (show 1 < l.length from by omega)
      refine Ic (e := 2) (m := 1) hl hx37 rfl rfl rfl rfl rfl (fun _ => rfl) (fun p37 vs37 hp37 hl37 hr37 => ?_)
      obtain rfl := hr37
      refine an rfl rfl (Ih hst hp37 rfl rfl) rfl (wQ 1 rfl (Ic (e := 2) (m := 1) hl hx40 rfl rfl rfl rfl rfl (fun _ => rfl) (fun p40 vs40 hp40 hl40 hr40 => ?_)))
      obtain rfl := hr40
      refine an rfl rfl (Ih hst hp40 rfl rfl) rfl (dt rfl rfl (It rfl rfl rfl) (fun _ => rfl) (D2 hG _ _ _ hst) (fun σ hst => ?_))
      refine ⟨aY, ?_⟩
      refine wQ 2 rfl (ba (ad (aB (aD (au (?_))))))
      exact bS rfl rfl rfl ⟨by rw [show pb op l = (lR op x37 x40, 0) from by unfold pb; simp only [bf]; simp only [h9, h6, h26, h30, h23, cond_true, cond_false]; rw [hx37, hx40]; (first | done | rfl)], hst⟩
     ·refine aF (aK (ad (aj (ah rfl (vQ 2 rfl (nT (aB ?_)))))))
      exact bS rfl rfl rfl ⟨by rw [show pb op l = (0, 2) from by unfold pb; simp only [bf]; simp only [h9, h6, h26, h30, h23, cond_true, cond_false]]; (first | done | rfl), hst⟩
    ·refine vQ 5 rfl (nT (aI rfl (aF (aK (ad (aj (ah rfl (vQ 2 rfl (nT (aB ?_))))))))))
     exact bS rfl rfl rfl ⟨by rw [show pb op l = (0, 2) from by unfold pb; simp only [bf]; simp only [h9, h6, h26, h30, cond_true, cond_false]]; (first | done | rfl), hst⟩
   ·refine vQ 9 rfl (nT (aI rfl (aF (aK (ad (aj (ah rfl (vQ 2 rfl (nT (aB ?_))))))))))
    exact bS rfl rfl rfl ⟨by rw [show pb op l = (0, 2) from by unfold pb; simp only [bf]; simp only [h9, h6, h26, cond_true, cond_false]]; (first | done | rfl), hst⟩
 ·refine vQ 3 rfl (aL rfl (al rfl) (fun _ => rfl) (fun h13 => ?_) (fun h13 => ?_))
  ·refine vQ 1 rfl (aa rfl (H9 hl rfl rfl rfl (e := 2) rfl) rfl (vQ 3 rfl (nT (aE rfl (fun h6 => ?_) (fun h6 => ?_)))))
   ·refine aj (ah rfl (vQ 2 rfl ?_))
    obtain ⟨x20, hx20⟩ := cL (show 0 < l.length from by have := Int.ofNat.inj (eqv (b := .ofNat 1) h6); omega)
    refine Ib (e := 2) (m := 1) hl hx20 rfl rfl rfl rfl (fun _ => rfl) (fun p20 vs20 hp20 hl20 hr20 => ?_)
    obtain rfl := hr20
    refine aa rfl (Ih hst hp20 rfl rfl) rfl (a9 rfl (It rfl rfl rfl) (fun _ => rfl) (FI hG _ _ hst) (fun σ hst => ?_))
    refine vQ 2 rfl (nT (aB (aD (au (?_)))))
    exact bS rfl rfl rfl ⟨by rw [show pb op l = (B6 op x20, 0) from by unfold pb; simp only [bf]; simp only [h9, h13, h6, cond_true]; rw [hx20]; (first | done | rfl)], hst⟩
   ·refine aj (ah rfl (vQ 2 rfl (aL rfl (al rfl) (fun _ => rfl) (fun h26 => ?_) (fun h26 => ?_))))
    ·refine vQ 3 rfl (aL rfl (al rfl) (fun _ => rfl) (fun h30 => ?_) (fun h30 => ?_))
     ·refine vQ 1 rfl (aa rfl (H9 hl rfl rfl rfl (e := 2) rfl) rfl (vQ 3 rfl (nT (aE rfl (fun h23 => ?_) (fun h23 => ?_)))))
      ·refine aj (aR (l := [(0, []), (1, []), (2, []), (3, []), (4, []), (5, []), (6, []), (7, []), (8, []), (9, [])]) (by kernel_rfl) (by kernel_rfl) (wQ 2 rfl ?_))
       have hl2 : l.length = 2 := Int.ofNat.inj (eqv (b := .ofNat 2) h23)
       obtain ⟨x37, hx37⟩ := cL (show 0 < l.length from by omega)
       obtain ⟨x40, hx40⟩ := cL (show 1 < l.length from by omega)
       refine Ic (e := 2) (m := 1) hl hx37 rfl rfl rfl rfl rfl (fun _ => rfl) (fun p37 vs37 hp37 hl37 hr37 => ?_)
       obtain rfl := hr37
       refine an rfl rfl (Ih hst hp37 rfl rfl) rfl (wQ 1 rfl (Ic (e := 2) (m := 1) hl hx40 rfl rfl rfl rfl rfl (fun _ => rfl) (fun p40 vs40 hp40 hl40 hr40 => ?_)))
       obtain rfl := hr40
       refine an rfl rfl (Ih hst hp40 rfl rfl) rfl (dt rfl rfl (It rfl rfl rfl) (fun _ => rfl) (D2 hG _ _ _ hst) (fun σ hst => ?_))
       refine ⟨aY, ?_⟩
       refine wQ 2 rfl (ba (ad (aB (aD (au (?_))))))
       exact bS rfl rfl rfl ⟨by rw [show pb op l = (lR op x37 x40, 0) from by unfold pb; simp only [bf]; simp only [h9, h13, h6, h26, h30, h23, cond_true, cond_false]; rw [hx37, hx40]; (first | done | rfl)], hst⟩
      ·refine aF (aK (ad (aj (ah rfl (vQ 2 rfl (nT (aB ?_)))))))
       exact bS rfl rfl rfl ⟨by rw [show pb op l = (0, 2) from by unfold pb; simp only [bf]; simp only [h9, h13, h6, h26, h30, h23, cond_true, cond_false]]; (first | done | rfl), hst⟩
     ·refine vQ 5 rfl (nT (aI rfl (aF (aK (ad (aj (ah rfl (vQ 2 rfl (nT (aB ?_))))))))))
      exact bS rfl rfl rfl ⟨by rw [show pb op l = (0, 2) from by unfold pb; simp only [bf]; simp only [h9, h13, h6, h26, h30, cond_true, cond_false]]; (first | done | rfl), hst⟩
    ·refine vQ 9 rfl (nT (aI rfl (aF (aK (ad (aj (ah rfl (vQ 2 rfl (nT (aB ?_))))))))))
     exact bS rfl rfl rfl ⟨by rw [show pb op l = (0, 2) from by unfold pb; simp only [bf]; simp only [h9, h13, h6, h26, cond_true, cond_false]]; (first | done | rfl), hst⟩
  ·refine vQ 5 rfl (nT (aI rfl (aj (ah rfl (vQ 2 rfl (aL rfl (al rfl) (fun _ => rfl) (fun h26 => ?_) (fun h26 => ?_)))))))
   ·refine vQ 3 rfl (aL rfl (al rfl) (fun _ => rfl) (fun h30 => ?_) (fun h30 => ?_))
    ·refine vQ 1 rfl (aa rfl (H9 hl rfl rfl rfl (e := 2) rfl) rfl (vQ 3 rfl (nT (aE rfl (fun h23 => ?_) (fun h23 => ?_)))))
     ·refine aj (aR (l := [(0, []), (1, []), (2, []), (3, []), (4, []), (5, []), (6, []), (7, []), (8, []), (9, [])]) (by kernel_rfl) (by kernel_rfl) (wQ 2 rfl ?_))
      have hl2 : l.length = 2 := Int.ofNat.inj (eqv (b := .ofNat 2) h23)
      obtain ⟨x37, hx37⟩ := cL (show 0 < l.length from by omega)
      obtain ⟨x40, hx40⟩ := cL (show 1 < l.length from by omega)
      refine Ic (e := 2) (m := 1) hl hx37 rfl rfl rfl rfl rfl (fun _ => rfl) (fun p37 vs37 hp37 hl37 hr37 => ?_)
      obtain rfl := hr37
      refine an rfl rfl (Ih hst hp37 rfl rfl) rfl (wQ 1 rfl (Ic (e := 2) (m := 1) hl hx40 rfl rfl rfl rfl rfl (fun _ => rfl) (fun p40 vs40 hp40 hl40 hr40 => ?_)))
      obtain rfl := hr40
      refine an rfl rfl (Ih hst hp40 rfl rfl) rfl (dt rfl rfl (It rfl rfl rfl) (fun _ => rfl) (D2 hG _ _ _ hst) (fun σ hst => ?_))
      refine ⟨aY, ?_⟩
      refine wQ 2 rfl (ba (ad (aB (aD (au (?_))))))
      exact bS rfl rfl rfl ⟨by rw [show pb op l = (lR op x37 x40, 0) from by unfold pb; simp only [bf]; simp only [h9, h13, h26, h30, h23, cond_true, cond_false]; rw [hx37, hx40]; (first | done | rfl)], hst⟩
     ·refine aF (aK (ad (aj (ah rfl (vQ 2 rfl (nT (aB ?_)))))))
      exact bS rfl rfl rfl ⟨by rw [show pb op l = (0, 2) from by unfold pb; simp only [bf]; simp only [h9, h13, h26, h30, h23, cond_true, cond_false]]; (first | done | rfl), hst⟩
    ·refine vQ 5 rfl (nT (aI rfl (aF (aK (ad (aj (ah rfl (vQ 2 rfl (nT (aB ?_))))))))))
     exact bS rfl rfl rfl ⟨by rw [show pb op l = (0, 2) from by unfold pb; simp only [bf]; simp only [h9, h13, h26, h30, cond_true, cond_false]]; (first | done | rfl), hst⟩
   ·refine vQ 9 rfl (nT (aI rfl (aF (aK (ad (aj (ah rfl (vQ 2 rfl (nT (aB ?_))))))))))
    exact bS rfl rfl rfl ⟨by rw [show pb op l = (0, 2) from by unfold pb; simp only [bf]; simp only [h9, h13, h26, cond_true, cond_false]]; (first | done | rfl), hst⟩
theorem Gs {G : Cx} (hG : Plain G) {K : KP} {s : List Nat} {n : Nat} (hs : l7 s = some n) {σ : av} {L : Own} (hst : St σ K L) : a7 Tryz.prog G 223 [.str s] σ fun v σ' => v = .tuple [.int .i64 (.ofNat n), .nilIface] ∧ St σ' K L := by
 obtain ⟨hl0, hl4, hdig⟩ := Dw hs
 have hlN : b0 s = s.length := bh s
 obtain ⟨c0, hc0⟩ := cL hl0
 have hd0 := (DG (i := 0) hdig hc0).1
 refine a8 hG Tryz.func223 rfl (t := PT.leaf.put (some (.str s)) 0) (by rfl) (aj (ah rfl (vQ 2 rfl (nS rfl (vQ 1 rfl (aa rfl (ji rfl rfl rfl (by kernel_rfl) rfl) rfl (vQ 1 rfl (nT (aj ?_)))))))))
 refine aj (ah rfl (vQ 12 rfl (aL rfl (al rfl) (fun _ => rfl) (fun h25 => ?_) (fun h25 => ?_))))
 ·refine vQ 5 rfl (nT (aE rfl (fun h30 => ?_) (fun h30 => ?_)))
  ·refine aj (ah rfl (vQ 2 rfl (nT (aj (aj (ah rfl (vQ 1 rfl (aa rfl (ik (by kernel_rfl) rfl rfl hc0) rfl (vQ 1 rfl (aL rfl (al rfl) (fun _ => rfl) (fun h35 => ?_) (fun h35 => ?_)))))))))))
   ·exact absurd (Int.ofNat.inj (eqv (b := .ofNat 45) h35)) (by omega)
   ·refine vQ 1 rfl (aa rfl (ik (by kernel_rfl) rfl rfl hc0) rfl (vQ 2 rfl (nT (aE rfl (fun h39 => ?_) (fun h39 => ?_)))))
    ·exact absurd (Int.ofNat.inj (eqv (b := .ofNat 43) h39)) (by omega)
    ·refine aF (ad (aj (ah rfl (vQ 1 rfl (nT (aj (aj (ah rfl (vQ 1 rfl (Co hst rfl (EL (e := 5) (by kernel_rfl) (by kernel_rfl) (by kernel_rfl) (by kernel_rfl) (by kernel_rfl) rfl) (fun _ => rfl) (fun σ b1 hst => ?_)))))))))))
     refine aa rfl (oo rfl rfl rfl (e := 5) (by kernel_rfl) rfl) rfl (vQ 1 rfl (nT (aP ?_)))
     obtain ⟨LL1, hst, hLL1⟩ := hst.named
     refine bu [2, 3, 6, 8, 49, 50, 51, 52, 53, 54, 55, 56, 57, 58, 59, 60, 61, 62, 63] (fun j t σ => ∃ (i m : Nat), j + i = b0 s ∧ oV (s.drop i) m = some n ∧ m < 10 ^ i ∧ i ≤ 4 ∧ t.get 6 = some (.int .i64 (.ofNat m)) ∧ t.get 49 = some (.int .i64 (.ofNat i)) ∧ St σ K LL1) (b0 s) ⟨0, 0, rfl, hdig, Nat.one_pos, Nat.zero_le _, rfl, rfl, hst⟩ ?_
     clear hst; intro j10 t σ ar hI; obtain ⟨i, m, hj, he, hm, hi4, hv6, hv49, hst⟩ := hI
     subst hLL1
     obtain ⟨o2, o3, o6, o8, o49, o50, o51, o52, o53, o54, o55, o56, o57, o58, o59, o60, ar⟩ := ar.HE rfl rfl rfl rfl
     replace ar := ar.fD rfl; obtain ⟨o61, ar⟩ := ar
     replace ar := ar.fD rfl; obtain ⟨o62, ar⟩ := ar
     replace ar := ar.fD rfl; obtain ⟨o63, ar⟩ := ar
     obtain rfl := ar.nil; clear ar
     replace hv6 : o6 = some _ := hv6; subst hv6
     replace hv49 : o49 = some _ := hv49; subst hv49
     refine aj (ah rfl (vQ 1 rfl (nT (aj (aE rfl (fun h50 => ?_) (fun h50 => ?_))))))
     ·refine aF (ad (aj (aP (aj (ah rfl ?_)))))
      obtain ⟨x51, hx51⟩ := cL (show i < s.length from by have := bW h50; omega)
      obtain ⟨hd, hdn⟩ := DG he hx51
      refine aa rfl (ej (e := 5) (m := 1) (by kernel_rfl) (by kernel_rfl) rfl rfl (bW h50)) rfl (aa rfl (ax rfl (hst.get 0 rfl) (by kernel_rfl) (kr hx51 (by first | omega | rfl))) rfl (vQ 1 rfl (nS rfl (vQ 3 rfl (nT (aj (aj (ah rfl (vQ 2 rfl ?_)))))))))
      refine nT (aE rfl (fun h56 => ?_) (fun h56 => ?_))
      ·exact absurd (h56.symm.trans (F4 hd)) (by decide)
      ·refine aF (ad (ah rfl (vQ 3 rfl ?_)))
       refine aa rfl (fH (j := .u8) (k := .i64) (by kernel_rfl) (by kernel_rfl) (by kernel_rfl) rfl) rfl ?_
       refine vQ 2 rfl (af (aK (ad (ah rfl (vQ 2 rfl (af (aQ ⟨j10 - 1, by have := bW h50; omega, (by (iterate 36 refine bq.put rfl ?_); exact bq.refl _ _), i + 1, 10 * m + (x51 - 48), by have := bW h50; omega, hdn, by rw [Nat.pow_succ]; omega, by have := bW h50; omega, congrArg (fun z => some (AV.int .i64 z)) (Gu hd (by have := zy i hi4; omega)), congrArg (fun z => some (AV.int .i64 z)) (bg (by omega)), hst⟩)))))))
     ·refine bz (aZ (bc (aU (ad (aj (aj (ah rfl (vQ 1 rfl (aa rfl (ik (by kernel_rfl) rfl rfl hc0) rfl (vQ 1 rfl (nT (aE rfl (fun h66 => ?_) (fun h66 => ?_)))))))))))))
      ·exact absurd (Int.ofNat.inj (eqv (b := .ofNat 45) h66)) (by omega)
      ·refine aF (ad (aj (ah rfl (vQ 3 rfl (nT (aB (au (?_))))))))
       exact bS rfl rfl rfl ⟨by rw [show m = n from by rw [tA (by have := bn h50; omega)] at he; exact Option.some.inj he], hst.pop⟩
  ·exact absurd (bn (b := 19) h30) (by omega)
 ·exact absurd (bn (a := 0) h25) (by omega)
theorem Gj {G : Cx} (hG : Plain G) {K : KP} {s : List Nat} {n : Nat} (hs : l7 s = some n) {σ : av} {L : Own} (hst : St σ K L) : a7 Tryz.prog G 167 [.str s] σ fun v σ' => v = .tuple [.int .i64 (.ofNat n), .nilIface] ∧ St σ' K L := by
 refine a8 hG Tryz.func167 rfl (t := PT.leaf.put (some (.str s)) 0) (by rfl) (aj (ah rfl (vQ 2 rfl (nS rfl (vQ 1 rfl (a9 rfl (It rfl rfl rfl) (fun _ => rfl) (Gs hG hs hst) (fun σ hst => ?_)))))))
 refine vQ 5 rfl (nT (aj (aj (ah rfl (vQ 1 rfl ?_)))))
 refine aa rfl (aV (v := .bool false) rfl (by kernel_rfl)) rfl ?_
 refine nT (aI rfl (aF (ad (aj (ah rfl (vQ 3 rfl (nT (aB ?_))))))))
 exact bS rfl rfl rfl ⟨rfl, hst⟩
theorem xA {aW : Int} {k : Nat} {op num : Int} {name : List Nat} {kids : List XE} (h : eO aW (k + 1) (.mk op num name kids) = true) (h1 : bk op 1 = false) (h2 : bk op 2 = false) : kids.length ≤ 2 ∧ ∀ x ∈ kids, eO aW k x = true := by
 unfold eO at h
 rw [h1, h2] at h
 simp only [cond_false] at h
 generalize hb1 : (bif (bif bk op 3 then true else bk op 4) then false else (bif cd op 5 then true else cd 16 op)) = b1 at h
 cases b1 with
 | true => cases h
 | false =>
  simp only [cond_false] at h
  generalize hb2 : (bif bf (bk num 0) then true else bif bf (qq name []) then true else bf (bk (.ofNat kids.length) (ep op))) = b2 at h
  cases b2 with
  | true => cases h
  | false =>
   simp only [cond_false] at h
   refine ⟨?_, List.all_eq_true.1 h⟩
   cases e1 : bf (bk num 0) with
   | true => rw [e1] at hb2; cases hb2
   | false =>
   cases e2 : bf (qq name []) with
   | true => rw [e1, e2] at hb2; cases hb2
   | false =>
   rw [e1, e2] at hb2
   have h3 : (kids.length : Int) = ep op := eqv (a6 hb2)
   have h4 : ep op ≤ 2 := by unfold ep; generalize (bif bk op 3 then true else bk op 4) = q; cases q <;> decide
   omega
theorem zP {aW : Int} {k : Nat} {op num : Int} {name : List Nat} {kids : List XE} (h : eO aW (k + 1) (.mk op num name kids) = true) (h1 : bk op 1 = false) (h2 : bk op 2 = true) : ∃ n, l7 name = some n ∧ (n : Int) < aW := by
 unfold eO at h
 rw [h1, h2] at h
 simp only [cond_false, cond_true] at h
 cases hr : l7 name with
 | none => rw [hr] at h; cases h
 | some n =>
  rw [hr] at h
  dsimp only at h
  refine ⟨n, rfl, ?_⟩
  cases hl : cd (.ofNat n) aW with
  | false => rw [hl] at h; cases h
  | true => rw [ek, decide_eq_true_iff] at hl; exact hl
theorem vF {G : Cx} (hG : Plain G) {K : KP} {aW : List Int} {rn : Int} (hrn : rn ≤ aW.length) {regv : AV} (hregs : bC K 1 dE aW regv) {tb et : Nat} {ro : Bool} {c0 c1 c2 c4 c5 c6 c7 : AV} (ht : K tb (.row [c0, c1, c2, regv, c4, c5, c6, c7] et ro)) :
  ∀ (k : Nat) (x : XE) (vs : List AV), gH K k x vs → eO rn k x = true → ∀ (σ : av) (L : Own), St σ K L → a7 Tryz.prog G 116 [.ptr tb 0, .agg vs] σ fun v σ' => v = .int .i64 (kT aW k x) ∧ St σ' K L := by
 intro k
 induction k with
 | zero => intro x vs h; cases x; exact h.elim
 | succ k ih =>
 intro x vs h hr σ L hst
 obtain ⟨op, num, name, kids⟩ := x
 obtain ⟨v, rfl, hk⟩ := h
 have hS : kT aW (k + 1) (.mk op num name kids) = bif bk op 1 then num else bif bk op 2 then (aW[(l7 name).getD 0]?).getD 0 else H6 op (kids.map (kT aW k)) := rfl
 rw [hS]; clear hS
 obtain ⟨F, hF⟩ : ∃ F : XE → Int, F = kT aW k := ⟨_, rfl⟩
 rw [← hF]
 refine a8 hG Tryz.func116 rfl (t := (PT.leaf.put (some (.ptr tb 0)) 0).put (some (.agg _)) 1) (by rfl) (aj (ah rfl (bp hst rfl (cU rfl rfl) (fun _ => rfl) (fun σ b1 hst => ?_))))
 refine vQ 1 rfl (nT (aj (aj (ah rfl (aa rfl (Iz 0 rfl) rfl (aa rfl (Ia rfl (hst.get 0 rfl) rfl) rfl (nT (aP (aj (ah rfl (aL rfl (aA rfl rfl rfl) (fun _ => rfl) (fun h15 => ?_) (fun h15 => ?_))))))))))))
 ·refine vQ 1 rfl (nT (aC rfl (aj (ah rfl (aa rfl (Iz 1 rfl) rfl (aa rfl (Ia rfl (hst.get 0 rfl) rfl) rfl (vQ 1 rfl (nT (aB (aD (au (?_))))))))))))
  exact ay rfl rfl ⟨congrArg (AV.int .i64) (by rw [h15]; rfl), hst.pop⟩
 ·refine vQ 1 rfl (nT (aI rfl (aj (ah rfl (aL rfl (aA rfl rfl rfl) (fun _ => rfl) (fun h19 => ?_) (fun h19 => ?_))))))
  ·refine vQ 1 rfl (nT (aC rfl (aj (ah rfl (aa rfl (Iz 2 rfl) rfl (aa rfl (Ia rfl (hst.get 0 rfl) rfl) rfl ?_))))))
   obtain ⟨rg, hrg, hrgn⟩ := zP hr h15 h19
   refine a9 rfl (It rfl rfl rfl) (fun _ => rfl) (Gj hG hrg hst) (fun σ hst => ?_)
   refine vQ 5 rfl (nS rfl (vQ 1 rfl (aa rfl (dH rfl) rfl (aa rfl (Iz 3 rfl) rfl (aa rfl (Ia rfl (hst.dR ht) rfl) rfl (vQ 1 rfl ?_))))))
   obtain ⟨y31, hy31⟩ := cL (show rg < aW.length from by omega)
   refine Ib (e := 2) (m := 1) hregs hy31 rfl rfl rfl rfl (fun _ => rfl) (fun p31 vs31 hp31 hl31 hr31 => ?_)
   obtain rfl := hr31
   refine aa rfl (Ih hst hp31 rfl rfl) rfl (vQ 1 rfl (nT (aB (aD (au (?_))))))
   exact ay rfl rfl ⟨congrArg (AV.int .i64) (by rw [h15, h19, hrg]; show y31 = (aW[rg]?).getD 0; rw [hy31]; rfl), hst.pop⟩
  ·refine vQ 1 rfl (nT (aI rfl (aF (aK (ad (aj (ah rfl (aa rfl (Iz 3 rfl) rfl (aa rfl (Ia rfl (hst.get 0 rfl) rfl) rfl (aa rfl (H9 hk rfl rfl rfl (e := 82) rfl) rfl ?_))))))))))
   obtain ⟨hk2, hkr⟩ := xA hr h15 h19
   refine lD hst rfl (gm (e := 2) (w := 8) (z := [gZ 0]) (by kernel_rfl) (by kernel_rfl) (by kernel_rfl) (by kernel_rfl) rfl rfl (by omega) (by omega)) (fun _ => rfl) (fun σ b2 hst => ?_)
   rw [gQ (f := gZ)] at hst
   rw [← sd F kids] at hst
   refine vQ 1 rfl (nT (aj (aj (ah rfl (aa rfl (Iz 3 rfl) rfl (aa rfl (Ia rfl (hst.get 1 rfl) rfl) rfl (aa rfl (H9 hk rfl rfl rfl (e := 82) rfl) rfl (vQ 1 rfl (nT (aP (bu [8, 9, 40, 41, 42, 43, 44, 45, 46, 47, 48, 49, 50, 51] (fun j t σ => ∃ (i : Nat), j + i = kids.length ∧ t.get 40 = some (.int .i64 (.ofNat i)) ∧ St σ K ((b2, .row ((kp F kids i).map gZ) 2 false) :: (b1, .row [.int .i64 op, .int .i64 num, .str name, v] 82 false) :: L)) (kids.length) ⟨0, rfl, rfl, hst⟩ ?_)))))))))))
   clear hst; intro j9 t σ ar hI; obtain ⟨i, hj9, hv40, hst⟩ := hI
   replace ar := ar.dC rfl rfl; obtain ⟨o8, o9, o40, o41, o42, o43, o44, o45, ar⟩ := ar
   replace ar := ar.rp rfl; obtain ⟨o46, o47, o48, o49, ar⟩ := ar
   replace ar := ar.fD rfl; obtain ⟨o50, ar⟩ := ar
   replace ar := ar.fD rfl; obtain ⟨o51, ar⟩ := ar
   obtain rfl := ar.nil; clear ar
   replace hv40 : o40 = some _ := hv40; subst hv40
   refine aj (ah rfl (aL rfl (aA rfl rfl rfl) (fun _ => rfl) (fun h41 => ?_) (fun h41 => ?_)))
   ·refine nT (aj (aC rfl (aF (ad (aj (aP (aj (ah rfl (vQ 1 rfl ?_)))))))))
    obtain ⟨x43, hx43, hi43⟩ := dv h41
    refine Ib (e := 82) (m := 4) hk hx43 rfl rfl rfl rfl (fun _ => rfl) (fun p43 vs43 hp43 hl43 hr43 => ?_)
    have hr43raw := hr43; obtain ⟨o43, n43, s43, v43, rfl, hk43⟩ := hr43.shape
    refine aa rfl (cr hst hp43 rfl (by kernel_rfl) rfl) rfl (bp hst rfl (cA (cs := [.int .i64 0, .int .i64 0, .str [], .aq]) (by kernel_rfl) (by kernel_rfl)) (fun _ => rfl) (fun σ b3 hst => ?_))
    refine vQ 1 rfl (bA hst rfl (Io rfl rfl rfl (hst.get 0 rfl) (m := 4) rfl (ae rfl (ae rfl (ae rfl (ae hk43.leaf.2 az)))) (cells' := [_, _, _, _]) rfl) rfl (fun σ hst => ?_))
    refine nT (ah rfl (vQ 3 rfl (aa rfl (IC rfl (hst.get 0 rfl) (n := 4) (vs := [_, _, _, _]) rfl) rfl (a9 rfl (It rfl rfl rfl) (fun _ => rfl) (ih x43 _ hr43raw (hkr x43 (List.mem_of_getElem? hx43)) _ _ hst) (fun σ hst => ?_)))))
    refine aa rfl (ej (e := 2) (m := 1) (by kernel_rfl) (by kernel_rfl) rfl rfl (bW h41)) rfl ?_
    refine dM hst (.there .here) rfl (aJ rfl rfl (show _ = some [gZ (F x43)] from by rw [hF]; rfl) (hst.get 1 rfl) (m := 1) (by kernel_rfl) rfl (by rw [List.length_map]; rw [nJ (by have := bW h41; omega)]; have := bW h41; omega) rfl (cells' := ((kp F kids i).set i (F x43)).map (gZ)) (fb (f := gZ) (v := (F x43)) (by rw [nJ (by have := bW h41; omega)]; exact bW h41) (by first | omega | rfl))) rfl (fun σ hst => ?_)
    rw [uj hx43] at hst
    refine af (aK (ad (ah rfl (vQ 2 rfl (af ?_)))))
    have hst := hst.pop
    refine aQ ⟨j9 - 1, by omega, (by (iterate 28 refine bq.put rfl ?_); exact bq.refl _ _), i + 1, by omega, congrArg (fun z => some (AV.int .i64 z)) (bg (by have := hk.bG; omega)), hst⟩
   ·refine nT (aj (aI rfl (bz (aZ (bc (aU (ad (aj (ah rfl (aa rfl (Iz 0 rfl) rfl (aa rfl (Ia rfl (hst.get 1 rfl) rfl) rfl (vQ 1 rfl ?_))))))))))))
    rw [uk (bn h41)] at hst
    have hq := hst.keeps (M := [_])
    refine a9 rfl (aM rfl rfl (show _ = some [AV.int .i64 op, AV.slice b2 0 (kids.map F).length (.known (kids.map F).length)] from by rw [List.length_map]; rfl) (by kernel_rfl)) (fun _ => rfl) (yH (HC hG (ee (xs := kids.map F) (KP.eQ 0 rfl) (by rw [List.length_map]; omega)) op hq)) (fun σ hst => ?_)
    clear hq
    refine vQ 5 rfl (nS rfl (vQ 2 rfl (nT (aB ?_))))
    exact ay rfl rfl ⟨congrArg (AV.int .i64) (by rw [h15, h19]; rfl), hst.pop⟩
end Go.Ev
namespace Go.Ev
variable [Env]
theorem gH.mono {K K' : KP} (hk : KP.le K K') : ∀ {k : Nat} {x : XE} {vs : List AV}, gH K k x vs → gH K' k x vs
 | 0, x, _, h => by cases x; exact h.elim
 | k + 1, .mk _ _ _ _, _, ⟨v, h1, h2⟩ => ⟨v, h1, h2.mono hk fun _ _ h => gH.mono hk h⟩
theorem fR.mono {K K' : KP} (hk : KP.le K K') {k : Nat} {x : XI} {vs : List AV} (h : fR K k x vs) : fR K' k x vs := let ⟨v, h1, h2⟩ := h; ⟨v, h1, h2.mono hk fun _ _ h => h.mono hk⟩
theorem jM.mono {K K' : KP} (hk : KP.le K K') {k : Nat} {x : XC} {vs : List AV} (h : jM K k x vs) : jM K' k x vs := let ⟨v, h1, h2⟩ := h; ⟨v, h1, h2.mono hk fun _ _ h => h.mono hk⟩
theorem oC {K K' : KP} (hk : KP.le K K') {k : Nat} {l : List XI} {v : AV} (h : bC K 6 (fR K k) l v) : bC K' 6 (fR K' k) l v := h.mono hk fun _ _ h => h.mono hk
theorem gP {K K' : KP} (hk : KP.le K K') {k : Nat} {l : List XE} {v : AV} (h : bC K 4 (gH K k) l v) : bC K' 4 (gH K' k) l v := h.mono hk fun _ _ h => h.mono hk
theorem jb {P : Program} {G : Cx} {f : Nat} {args : List AV} {σ : av} {K : KP} {M L : Own} {u : AV} (h0 : St σ K (M ++ L)) (h : a7 P G f args σ fun v σ' => v = u ∧ St σ' (K.nM M) L) : a7 P G f args σ fun v σ' => v = u ∧ St σ' K (M ++ L) :=
 h.mono fun _ _ ⟨a, b⟩ => ⟨a, h0.Ak b⟩
theorem yh (b o : Nat) : dn (.ptr b o) (.ptr b o) = true := by
 unfold dn
 show (dn.beqP b b && Nat.beq o o) = true
 rw [show dn.beqP b b = true from Nat.beq_refl b, Nat.beq_refl]; rfl
abbrev Ce (c : XC) (cv : AV) (s : TS) (rb : Nat) (ev : AV) : List AV := [.int .i64 c.aW, cv, .int .i64 (.ofNat s.at_), .slice rb 0 s.aW.length (.known s.aW.length), ev, .int .i64 (.ofNat s.asked), .int .i64 s.fin, .bool s.asks]
theorem pL {aW nins : Int} {k n : Nat} {x : XI} (h : fG aW nins k x = true) (hn : x.kind = .ofNat n) (h1 : n = 1 ∨ n = 3 ∨ n = 4 ∨ n = 5 ∨ n = 6 ∨ n = 8 ∨ n = 9 ∨ n = 11) : ∃ e, x.exprs[0]? = some e ∧ eO aW k e = true := by
 obtain ⟨m, sh, hm, _, _, hsh, hr⟩ := hY h
 have hr := hH hr
 have : m = n := Int.ofNat.inj (hm.symm.trans hn)
 subst this
 have hl : 0 < x.exprs.length := by
  rw [hr.exprs]
  rcases h1 with h1 | h1 | h1 | h1 | h1 | h1 | h1 | h1 <;> subst h1 <;> cases hsh <;> decide
 exact ⟨x.exprs[0], List.getElem?_eq_getElem hl, hr.all _ (List.getElem_mem hl)⟩
theorem D1 {aW nins : Int} {k n : Nat} {x : XI} (h : fG aW nins k x = true) (hn : x.kind = .ofNat n) (h1 : n = 1 ∨ n = 2 ∨ n = 4 ∨ n = 5 ∨ n = 6) : ∃ r : Nat, x.tN = .ofNat r ∧ (r : Int) < aW := by
 obtain ⟨m, sh, hm, _, _, hsh, hr⟩ := hY h
 have hr := hH hr
 have : m = n := Int.ofNat.inj (hm.symm.trans hn)
 subst this
 have hs : sh.tN = true := by
  rcases h1 with h1 | h1 | h1 | h1 | h1 <;> subst h1 <;> cases hsh <;> rfl
 have := hr.tN
 rw [hs] at this
 obtain ⟨w1, w2⟩ := jS this
 exact ⟨x.tN.toNat, by show x.tN = ((x.tN.toNat : Nat) : Int); omega, by omega⟩
theorem FB {aW : Int} {m k n : Nat} {x : XI} (h : fG aW (.ofNat m) k x = true) (hn : x.kind = .ofNat n) (h1 : n = 10 ∨ n = 11) : ∃ r : Nat, x.to = .ofNat r ∧ r < m := by
 obtain ⟨q, sh, hm, _, _, hsh, hr⟩ := hY h
 have hr := hH hr
 have : q = n := Int.ofNat.inj (hm.symm.trans hn)
 subst this
 have hs : sh.to = true := by rcases h1 with h1 | h1 <;> subst h1 <;> cases hsh <;> rfl
 have := hr.to
 rw [hs] at this
 obtain ⟨w1, w2⟩ := jS this
 have w2 : x.to < (m : Int) := w2
 exact ⟨x.to.toNat, by show x.to = ((x.to.toNat : Nat) : Int); omega, by omega⟩
theorem dU {k i : Nat} {aW : List Int} {x : XI} {e : XE} (h : x.exprs[i]? = some e) : gD k aW x i = kT aW k e := by unfold gD; rw [h]; rfl
theorem pw {k i : Nat} {aW : List Int} {x : XI} (h : x.exprs.length ≤ i) : gD k aW x i = 0 := by unfold gD; rw [List.getElem?_eq_none h]; rfl
theorem bE {α : Type} {P : α → Prop} {a b : α} (c : Bool) (h1 : P a) (h0 : P b) : P (bif c then a else b) := by cases c; exact h0; exact h1
theorem dj {α : Type} {P : α → Prop} {a b : α} (c : Bool) (h1 : c = true → P a) (h0 : c = false → P b) : P (bif c then a else b) := by cases c; exact h0 rfl; exact h1 rfl
theorem fw (a b : List cS) : cG (a ++ b) = cG a ++ cG b := by unfold cG; rw [List.filter_append, List.map_append]
theorem qy {e : cS} (h : dN e = false) : cG [e] = [] := by unfold cG; rw [List.filter_cons, h]; rfl
theorem oz {e : cS} (h : dN e = true) : cG [e] = [e.read] := by unfold cG; rw [List.filter_cons, h]; rfl
theorem yw {l : List cS} (h : cG l = []) : ∀ e ∈ l, dN e = false := by
 intro e he
 cases hr : dN e with
 | false => rfl
 | true =>
  have : e.read ∈ cG l := List.mem_map_of_mem (List.mem_filter.2 ⟨he, hr⟩)
  rw [h] at this; cases this
def Grown (s s' : TS) : Prop := (∃ ext, s'.events = s.events ++ ext ∧ cG ext = []) ∧ s'.asked = s.asked
theorem Grown.refl (s : TS) : Grown s s := ⟨⟨[], by simp, rfl⟩, rfl⟩
theorem Grown.trans {s s' s'' : TS} (h : Grown s s') (h' : Grown s' s'') : Grown s s'' := by
 obtain ⟨⟨x, h1, h2⟩, h3⟩ := h
 obtain ⟨⟨y, k1, k2⟩, k3⟩ := h'
 exact ⟨⟨x ++ y, by rw [k1, h1, List.append_assoc], by rw [fw, h2, k2]; rfl⟩, by rw [k3, h3]⟩
theorem xn (k : Nat) (x : XI) (s : TS) : Grown s (eA k x s).1 := by
 obtain ⟨P, hP⟩ : ∃ P : TS × Bool → Prop, P = fun r => Grown s r.1 := ⟨_, rfl⟩
 have h0 : ∀ (r : TS × Bool), r.1.events = s.events → r.1.asked = s.asked → P r := fun r h1 h2 => by rw [hP]; exact ⟨⟨[], by rw [h1]; simp, rfl⟩, h2⟩
 have hw : ∀ (r : TS × Bool) (e : cS), dN e = false → r.1.events = s.events ++ [e] → r.1.asked = s.asked → P r := fun r e h1 h2 h3 => by rw [hP]; exact ⟨⟨[e], h2, qy h1⟩, h3⟩
 have : P (eA k x s) := by
  unfold eA
  refine bE _ (h0 _ rfl rfl) (bE _ (hw _ _ rfl rfl rfl) (bE _ (hw _ _ rfl rfl rfl) (bE _ (bE _ (h0 _ rfl rfl) (h0 _ rfl rfl)) (bE _ (bE _ (h0 _ rfl rfl) (h0 _ rfl rfl)) (bE _ (h0 _ rfl rfl) (bE _ (bE _ (h0 _ rfl rfl) (h0 _ rfl rfl)) (bE _ (h0 _ rfl rfl) (bE _ (h0 _ rfl rfl) (h0 _ rfl rfl)))))))))
 rw [hP] at this; exact this
theorem qT (k : Nat) (c : XC) (s : TS) : Grown s (cm k c s).1 := by
 unfold cm
 cases c.ins[s.at_]? with
 | none => exact Grown.refl s
 | some x => exact xn k x s
theorem lG (k : Nat) (c : XC) : ∀ (f : Nat) (s : TS), Grown s (tP k c f s)
 | 0, s => Grown.refl s
 | f + 1, s => by
  show Grown s (bif (cm k c s).2 then tP k c f (cm k c s).1 else (cm k c s).1)
  exact bE (P := Grown s) _ ((qT k c s).trans (lG k c f _)) (qT k c s)
def jL (c : XC) (s : TS) : Prop := s.asks = true → ∃ x, c.ins[s.at_]? = some x ∧ (x.kind = 2 ∨ x.kind = 4 ∨ x.kind = 5 ∨ x.kind = 6)
theorem yN {k : Nat} {x : XI} {s : TS} {aW nins : Int} (hx : fG aW nins k x = true) (hs : s.asks = false) : (eA k x s).1.asks = true → (eA k x s).1.at_ = s.at_ ∧ (x.kind = 2 ∨ x.kind = 4 ∨ x.kind = 5 ∨ x.kind = 6) ∧ (eA k x s).2 = false := by
 obtain ⟨n, sh, hn, n1, n13, _, _⟩ := hY hx
 obtain ⟨P, hP⟩ : ∃ P : TS × Bool → Prop, P = fun r => r.1.asks = true → r.1.at_ = s.at_ ∧ (x.kind = 2 ∨ x.kind = 4 ∨ x.kind = 5 ∨ x.kind = 6) ∧ r.2 = false := ⟨_, rfl⟩
 have hno : ∀ r : TS × Bool, r.1.asks = s.asks → P r := fun r h1 => by rw [hP]; intro h2; rw [h1, hs] at h2; cases h2
 have ne : ∀ m : Int, bk x.kind m = false → x.kind ≠ m := fun m h e => by rw [e, jF] at h; cases h
 have : P (eA k x s) := by
  unfold eA
  refine dj _ (fun _ => hno _ rfl) fun e1 => dj _ (fun _ => hno _ rfl) fun e3 => dj _ (fun _ => hno _ rfl) fun e7 => dj _ (fun _ => bE _ (hno _ rfl) (hno _ rfl)) fun e8 => dj _ (fun _ => bE _ (hno _ rfl) (hno _ rfl)) fun e9 =>
   dj _ (fun _ => hno _ rfl) fun e10 => dj _ (fun _ => bE _ (hno _ rfl) (hno _ rfl)) fun e11 => dj _ (fun _ => hno _ rfl) fun e12 => dj _ (fun _ => hno _ rfl) fun e13 => ?_
  rw [hP]
  refine fun _ => ⟨rfl, ?_, rfl⟩
  have h1 := ne _ e1; have h3 := ne _ e3; have h7 := ne _ e7; have h8 := ne _ e8; have h9 := ne _ e9; have h10 := ne _ e10; have h11 := ne _ e11; have h12 := ne _ e12; have h13 := ne _ e13
  have hn' : x.kind = (n : Int) := hn
  omega
 rw [hP] at this; exact this
theorem By {k : Nat} {c : XC} (hc : eY k c) {s : TS} (hs : s.asks = false) : jL c (cm k c s).1 ∧ ((cm k c s).2 = true → (cm k c s).1.asks = false) := by
 unfold cm
 cases hx : c.ins[s.at_]? with
 | none => exact ⟨fun h => (by rw [show s.asks = true from h] at hs; cases hs), fun h => (by cases h)⟩
 | some x =>
  have h := yN (k := k) (hc.right x (List.mem_of_getElem? hx)) hs
  refine ⟨fun ha => ?_, fun h2 => ?_⟩
  ·obtain ⟨h1, h2, _⟩ := h ha
   exact ⟨x, by rw [show (eA k x s).1.at_ = s.at_ from h1]; exact hx, h2⟩
  ·cases ha : (eA k x s).1.asks with
   | false => rfl
   | true => have := (h ha).2.2; rw [show (eA k x s).2 = true from h2] at this; cases this
theorem vJ {k : Nat} {c : XC} (hc : eY k c) : ∀ (f : Nat) (s : TS), s.asks = false → jL c (tP k c f s)
 | 0, s, hs => fun h => by rw [show s.asks = true from h] at hs; cases hs
 | f + 1, s, hs => by
  have h := By hc hs
  show jL c (bif (cm k c s).2 then tP k c f (cm k c s).1 else (cm k c s).1)
  cases h2 : (cm k c s).2 with
  | true => exact vJ hc f _ (h.2 h2)
  | false => exact h.1
theorem rO {k : Nat} {c : XC} (hc : eY k c) : jL c (gk k c) := vJ hc _ _ rfl
theorem qI {k : Nat} {c : XC} (hc : eY k c) (s : TS) (v : Int) : jL c (di k c s v) := vJ hc _ _ rfl
theorem ic {a : tK} {v : Int} (h : a.kind = 2 ∨ a.kind = 4 ∨ a.kind = 5 ∨ a.kind = 6) : dN (bZ a v) = true ∧ (bZ a v).read = v := by
 unfold bZ
 rcases h with h | h | h | h <;> rw [h]
 ·exact ⟨rfl, rfl⟩
 ·exact bE (P := fun e : cS => dN e = true ∧ e.read = v) (bk v a.a) ⟨rfl, rfl⟩ ⟨rfl, rfl⟩
 ·exact ⟨rfl, rfl⟩
 ·exact ⟨rfl, rfl⟩
theorem qh {k : Nat} {c : XC} {s : TS} (h : jL c s) (ha : s.asks = true) : ((nb k c s).kind = 2 ∨ (nb k c s).kind = 4 ∨ (nb k c s).kind = 5 ∨ (nb k c s).kind = 6) := by
 obtain ⟨x, hx, hk⟩ := h ha
 unfold nb
 rw [hx]; exact hk
theorem nZ {k : Nat} {c : XC} {s : TS} (h : jL c s) (ha : s.asks = true) (v : Int) : ∃ ext, (di k c s v).events = s.events ++ bZ (nb k c s) v :: ext ∧ cG (bZ (nb k c s) v :: ext) = [v] := by
 obtain ⟨⟨ext, h1, h2⟩, _⟩ := lG k c (iw c) (fe k c s v)
 obtain ⟨r1, r2⟩ := ic (v := v) (qh (k := k) h ha)
 refine ⟨ext, ?_, ?_⟩
 ·unfold di
  rw [h1]
  show (s.events ++ [_]) ++ ext = _
  rw [List.append_assoc]; rfl
 ·rw [show bZ (nb k c s) v :: ext = [bZ (nb k c s) v] ++ ext from rfl, fw, oz r1, h2, r2]; rfl
theorem sK {k : Nat} {c : XC} (hc : eY k c) : ∀ (A : List Int) (s : TS), jL c s → jL c (jo k c A s) ∧ ∃ ext m, (jo k c A s).events = s.events ++ ext ∧ cG ext = A.take m ∧ ((jo k c A s).asks = true → A.length ≤ m)
 | [], s, h => ⟨h, [], 0, by show s.events = _; simp, rfl, fun _ => Nat.le_refl _⟩
 | v :: r, s, h => by
  show jL c (bif s.asks then jo k c r (di k c s v) else s) ∧ ∃ ext m, (bif s.asks then jo k c r (di k c s v) else s).events = s.events ++ ext ∧ cG ext = (v :: r).take m ∧ ((bif s.asks then jo k c r (di k c s v) else s).asks = true → (v :: r).length ≤ m)
  cases ha : s.asks with
  | false => exact ⟨h, [], 0, by show s.events = _; simp, rfl, fun h' => by rw [show s.asks = true from h'] at ha; cases ha⟩
  | true =>
   obtain ⟨e1, h1, h2⟩ := nZ (k := k) h ha v
   obtain ⟨q, ext, m, h3, h4, h5⟩ := sK hc r _ (qI hc s v)
   refine ⟨q, bZ (nb k c s) v :: e1 ++ ext, m + 1, ?_, ?_, fun h' => ?_⟩
   ·show (jo k c r (di k c s v)).events = _
    rw [h3, h1, List.append_assoc]
   ·rw [fw, h2, h4]; rfl
   ·have := h5 h'
    simp only [List.length_cons]; omega
theorem uR {k : Nat} {c : XC} (v : Int) : ∀ (A : List Int) (s : TS), jo k c (A ++ [v]) s = bif (jo k c A s).asks then di k c (jo k c A s) v else jo k c A s
 | [], s => rfl
 | a :: r, s => by
  show (bif s.asks then jo k c (r ++ [v]) (di k c s a) else s) = bif (bif s.asks then jo k c r (di k c s a) else s).asks then di k c (bif s.asks then jo k c r (di k c s a) else s) v else (bif s.asks then jo k c r (di k c s a) else s)
  cases ha : s.asks with
  | false => simp only [cond_false]; rw [ha]; rfl
  | true => simp only [cond_true]; exact uR v r _
theorem oX {k : Nat} {c : XC} (hc : eY k c) (A : List Int) : jL c (gd k c A) ∧ ∃ m, cG (gd k c A).events = A.take m ∧ ((gd k c A).asks = true → A.length ≤ m) := by
 obtain ⟨h, ext, m, h1, h2, h3⟩ := sK hc A (gk k c) (rO hc)
 obtain ⟨⟨e0, h4, h5⟩, _⟩ := lG k c (iw c) ⟨0, List.replicate c.aW.toNat 0, [], 0, 0, false⟩
 refine ⟨h, m, ?_, h3⟩
 unfold gd
 rw [h1, fw, h2]
 have : (gk k c).events = [] ++ e0 := h4
 rw [this, List.nil_append, h5]; rfl
theorem lz {s : TS} {l : List cS} : qE s l = true ↔ ∃ rest, s.events = l ++ rest := by
 unfold qE
 constructor
 ·intro h
  cases h1 : cd (.ofNat s.events.length) (.ofNat l.length) with
  | true => rw [h1] at h; cases h
  | false =>
   rw [h1] at h
   have h : cz (s.events.take l.length) l = true := h
   rw [cu] at h
   exact ⟨s.events.drop l.length, by conv => lhs; rw [← List.take_append_drop l.length s.events, h]⟩
 ·rintro ⟨rest, h⟩
  rw [h, jV, show decide ((l ++ rest).length < l.length) = false by simp]
  show cz _ _ = true
  rw [cu, List.take_left]
def mj (k : Nat) (c : XC) (l : List cS) : Prop := iN k c = true ∧ qE (gd k c (cG l)) l = true
theorem yZ {k : Nat} {c : XC} (hc : eY k c) {l rest : List cS} (h : (gd k c (cG l)).events = l ++ rest) : cG rest = [] := by
 obtain ⟨_, m, h1, _⟩ := oX hc (cG l)
 rw [h, fw] at h1
 have := congrArg List.length h1
 rw [List.length_append, List.length_take] at this
 exact List.length_eq_zero_iff.1 (by omega)
theorem Dq {k : Nat} {c : XC} (h : iN k c = true) : mj k c [] := ⟨h, lz.2 ⟨_, rfl⟩⟩
theorem zB {k : Nat} {c : XC} {l : List cS} {e : cS} (h : mj k c l) (he : (gd k c (cG l)).events[l.length]? = some e) : mj k c (l ++ [e]) ∧ dN e = false := by
 obtain ⟨hf, h⟩ := h
 have hc := (rG hf).1
 obtain ⟨rest, hr⟩ := lz.1 h
 have hq := yZ hc hr
 rw [hr, List.getElem?_append_right (Nat.le_refl _), Nat.sub_self] at he
 cases rest with
 | nil => cases he
 | cons e' r =>
  simp only [List.getElem?_cons_zero, Option.some.injEq] at he
  subst he
  have hne := yw hq e' (List.mem_cons_self ..)
  refine ⟨⟨hf, ?_⟩, hne⟩
  rw [fw, qy hne, List.append_nil]
  exact lz.2 ⟨r, by rw [hr]; simp⟩
theorem yt {k : Nat} {c : XC} {l : List cS} (h : mj k c l) (he : (gd k c (cG l)).events[l.length]? = none) (ha : (gd k c (cG l)).asks = true) (v : Int) : mj k c (l ++ [bZ (nb k c (gd k c (cG l))) v]) := by
 obtain ⟨hf, h⟩ := h
 have hc := (rG hf).1
 obtain ⟨rest, hr⟩ := lz.1 h
 have hl : rest = [] := by
  rw [hr, List.getElem?_eq_none_iff, List.length_append] at he
  exact List.length_eq_zero_iff.1 (by omega)
 subst hl
 rw [List.append_nil] at hr
 have hk := (oX hc (cG l)).1
 obtain ⟨r1, r2⟩ := ic (v := v) (qh (k := k) hk ha)
 refine ⟨hf, ?_⟩
 rw [fw, oz r1, r2]
 have e1 : gd k c (cG l ++ [v]) = di k c (gd k c (cG l)) v := by
  unfold gd at ha ⊢
  rw [uR, ha]; rfl
 rw [e1]
 obtain ⟨ext, h1, _⟩ := nZ (k := k) hk ha v
 exact lz.2 ⟨ext, by rw [h1, hr]; simp⟩
theorem iy {k : Nat} {c : XC} : bk (jG k c) 0 = iN k c := by
 unfold jG
 cases h : iN k c with
 | true => rfl
 | false =>
  simp only [cond_false]
  cases h1 : bk (cY k c) 0 with
  | true => rfl
  | false => exact h1
theorem pd {k : Nat} {c : XC} {l : List cS} : (cC k c l).2 = 0 ↔ mj k c l := by
 unfold cC mj
 rw [iy]
 cases hf : iN k c with
 | false =>
  refine ⟨fun h => ?_, fun h => (by cases h.1)⟩
  have h : jG k c = 0 := h
  have := iy (k := k) (c := c)
  rw [h, hf] at this; cases this
 | true =>
  show (kb k c (gd k c (cG l)) l).2 = 0 ↔ _
  unfold kb
  cases ht : qE (gd k c (cG l)) l with
  | false => exact ⟨fun h => (by cases h), fun h => (by cases h.2)⟩
  | true =>
   refine ⟨fun _ => ⟨rfl, rfl⟩, fun _ => ?_⟩
   simp only [bf, cond_true, cond_false]
   cases (gd k c (cG l)).events[l.length]? with
   | some e => rfl
   | none => cases (gd k c (cG l)).asks <;> rfl
theorem wO {k : Nat} {c : XC} {l : List cS} (h : (cC k c l).2 = 0) :
  (∃ e, cC k c l = (⟨e, pz, 0⟩, 0) ∧ mj k c (l ++ [e]) ∧ dN e = false) ∨
  (∃ a, cC k c l = (⟨s7, a, 0⟩, 0) ∧ (a.kind = 2 ∨ a.kind = 4 ∨ a.kind = 5 ∨ a.kind = 6) ∧ ∀ v, mj k c (l ++ [bZ a v])) ∨
  (∃ n, cC k c l = (⟨s7, pz, n⟩, 0)) := by
 have hF := pd.1 h
 obtain ⟨hf, ht⟩ := hF
 have hc := (rG hf).1
 unfold cC
 rw [iy, hf]
 show (∃ e, kb k c (gd k c (cG l)) l = _ ∧ _) ∨ _
 simp only [bf, cond_true, cond_false]
 unfold kb
 rw [ht]
 simp only [bf, cond_true, cond_false]
 cases he : (gd k c (cG l)).events[l.length]? with
 | some e =>
  obtain ⟨h1, h2⟩ := zB ⟨hf, ht⟩ he
  exact .inl ⟨e, rfl, h1, h2⟩
 | none =>
  cases ha : (gd k c (cG l)).asks with
  | true => exact .inr (.inl ⟨_, rfl, qh (oX hc _).1 ha, fun v => yt ⟨hf, ht⟩ he ha v⟩)
  | false => exact .inr (.inr ⟨_, rfl⟩)
theorem St.ft {σ : av} {K : KP} {M L : Own} (h : St σ K (M ++ L)) : ∃ K1, KP.le K K1 ∧ (∀ e ∈ M, K1 e.1 e.2) ∧ St σ K1 L := ⟨K.nM M, KP.cQ _ _, fun e he => .inr he, h.keeps⟩
theorem AZ {nx : Nat → List Nat} {n : Nat} (hnx : ∀ i, i < n → ∀ to ∈ nx i, to < n) : ∀ {f : Nat} {s : DS} {out : List Nat}, GM nx n s → wA nx f s = some out → out.length ≤ s.out.length + ga nx n s
 | 0, _, _, _, h => by cases h
 | f + 1, s, out, hw, h => by
  unfold wA at h
  cases hl : s.path.getLast? with
  | none =>
   rw [hl] at h
   simp only [Option.some.injEq] at h
   subst h; omega
  | some a =>
   rw [hl] at h
   dsimp only at h
   cases hd : jv nx s a with
   | none => rw [hd] at h; cases h
   | some s' =>
    rw [hd] at h
    obtain ⟨h1, _, h3⟩ := mU hw hnx hl hd
    have := AZ hnx h1 h
    omega
theorem qm {k : Nat} {c : XC} (hc : eY k c) {out : List Nat} (h : eR c = some out) : out.length ≤ 16001 := by
 have := AZ (ph hc) (vI hc.pos) (show wA _ _ _ = some out from h)
 rw [DZ] at this
 have h1 : (xm c.ins.length).out.length = 0 := rfl
 have h2 := xk (c := c)
 have h3 := hc.len
 omega
theorem rU {k : Nat} {c : XC} {s : TS} {x : XI} (hx : c.ins[s.at_]? = some x) (h : (cm k c s).2 = true) : (cm k c s).1.at_ ∈ dw c s.at_ := by
 obtain ⟨P, hP⟩ : ∃ P : TS × Bool → Prop, P = fun r => r.2 = true → r.1.at_ ∈ dw c s.at_ := ⟨_, rfl⟩
 have hN : dw c s.at_ = (eB x s.at_).map Int.toNat := by unfold dw; rw [hx]
 have hno : ∀ r : TS × Bool, r.2 = false → P r := fun r h1 => by rw [hP]; intro h2; rw [h1] at h2; cases h2
 have hon : (bk x.kind 10 = false) → (bk x.kind 12 = false) → (bk x.kind 13 = false) → ∀ r : TS × Bool, r.1.at_ = s.at_ + 1 → P r := fun h0 h2 h3 r h1 => by
  rw [hP]; intro _; rw [h1, hN]
  unfold eB
  rw [h0, h2, h3]
  cases bk x.kind 11 <;> simp
 have ne : ∀ (a b : Int), bk x.kind a = true → a ≠ b → bk x.kind b = false := fun a b h h' => by
  rw [dX, decide_eq_true_iff] at h
  rw [dX, decide_eq_false_iff_not, h]; exact h'
 have : P (cm k c s) := by
  unfold cm
  rw [hx]
  dsimp only
  unfold eA
  refine dj _ (fun e => hon (ne _ _ e (by decide)) (ne _ _ e (by decide)) (ne _ _ e (by decide)) _ rfl) fun e1 => dj _ (fun e => hon (ne _ _ e (by decide)) (ne _ _ e (by decide)) (ne _ _ e (by decide)) _ rfl) fun e3 => dj _ (fun e => hon (ne _ _ e (by decide)) (ne _ _ e (by decide)) (ne _ _ e (by decide)) _ rfl) fun e7 =>
   dj _ (fun e => bE _ (hno _ rfl) (hon (ne _ _ e (by decide)) (ne _ _ e (by decide)) (ne _ _ e (by decide)) _ rfl)) fun e8 => dj _ (fun e => bE _ (hno _ rfl) (hon (ne _ _ e (by decide)) (ne _ _ e (by decide)) (ne _ _ e (by decide)) _ rfl)) fun e9 =>
   dj _ (fun e => ?_) fun e10 => dj _ (fun e => bE _ ?_ (hon (ne _ _ e (by decide)) (ne _ _ e (by decide)) (ne _ _ e (by decide)) _ rfl)) fun e11 => dj _ (fun _ => hno _ rfl) fun e12 => dj _ (fun _ => hno _ rfl) fun e13 => hno _ rfl
  ·rw [hP]; intro _; rw [hN]; unfold eB; rw [e]; simp
  ·rw [hP]; intro _; rw [hN]; unfold eB; rw [ne _ 10 e (by decide), e]; simp
 rw [hP] at this; exact this h
theorem nB {k : Nat} {c : XC} {s : TS} : (cm k c s).1.aW.length = s.aW.length ∧ (cm k c s).1.events.length ≤ s.events.length + 1 := by
 obtain ⟨P, hP⟩ : ∃ P : TS × Bool → Prop, P = fun r => r.1.aW.length = s.aW.length ∧ r.1.events.length ≤ s.events.length + 1 := ⟨_, rfl⟩
 have h0 : ∀ r : TS × Bool, r.1.aW = s.aW → r.1.events = s.events → P r := fun r h1 h2 => by rw [hP]; dsimp only; rw [h1, h2]; exact ⟨rfl, by omega⟩
 have h1 : ∀ (r : TS × Bool) (e : cS), r.1.aW = s.aW → r.1.events = s.events ++ [e] → P r := fun r e h1 h2 => by rw [hP]; dsimp only; rw [h1, h2]; exact ⟨rfl, by simp⟩
 have : P (cm k c s) := by
  unfold cm
  cases hx : c.ins[s.at_]? with
  | none => exact h0 _ rfl rfl
  | some x =>
   dsimp only
   unfold eA
   refine bE _ (by rw [hP]; exact ⟨List.length_set .., by dsimp only; omega⟩) (bE _ (h1 _ _ rfl rfl) (bE _ (h1 _ _ rfl rfl) (bE _ (bE _ (h0 _ rfl rfl) (h0 _ rfl rfl)) (bE _ (bE _ (h0 _ rfl rfl) (h0 _ rfl rfl)) (bE _ (h0 _ rfl rfl) (bE _ (bE _ (h0 _ rfl rfl) (h0 _ rfl rfl)) (bE _ (h0 _ rfl rfl) (bE _ (h0 _ rfl rfl) (h0 _ rfl rfl)))))))))
 rw [hP] at this; exact this
structure ID (c : XC) (s : TS) : Prop where
 at_ : s.at_ < c.ins.length
 aW : s.aW.length = c.aW.toNat
 events : s.events.length ≤ 1000000
theorem results_none {P : Program} {fn : Func} {t : PT AV} {σ : av} (hr : fn.results.toList = []) : dq P fn t σ = some (.tuple []) := by
 unfold dq
 rw [hr]; rfl
theorem xV {P : Program} {fn : Func} {R : AV → av → Prop} {t : PT AV} {σ : av} (hr : fn.results.toList = []) (hR : R (.tuple []) σ) : wZ P fn R .normal t σ := ⟨.inl rfl, _, results_none hr, hR⟩
end Go.Ev
namespace Go.Ev
variable [Env]
open Go.Proofs
set_option maxRecDepth 4000
set_option maxHeartbeats 8000000
theorem uA {K : KP} {x : cS} {vb e : Nat} (hvb : K vb (.row (ints x.ints) e false)) : bC K 5 kQ [x] (.slice vb 0 1 (.known 1)) :=
 .inr ⟨vb, 0, _, _, e, false, rfl, .inr ⟨_, rfl, Nat.le_refl _⟩, hvb, by show 0 + 1 * 5 ≤ 5; omega, by show 1 ≤ _; omega, fun i y hi => by
  cases i with
  | zero => simp only [List.getElem?_cons_zero, Option.some.injEq] at hi; subst hi; rfl
  | succ i => simp at hi⟩
theorem pQ {G : Cx} (hG : Plain G) {K : KP} {aW : List Int} {rn : Int} (hrn : rn ≤ aW.length) {regv : AV} (hregs : bC K 1 dE aW regv) {tb et bt e1 bi e2 k : Nat} {ro ro1 ro2 : Bool} {c0 c1 c2 c4 c5 c6 c7 i0 i1 i2 i3 i4 w : AV} (ht : K tb (.row [c0, c1, c2, regv, c4, c5, c6, c7] et ro)) (hbt : K bt (.row [.ptr tb 0] e1 ro1))
  (hbi : K bi (.row [i0, i1, i2, i3, i4, w] e2 ro2)) {es : List XE} {x0 : XE} (hw : bC K 4 (gH K k) es w) (hx0 : es[0]? = some x0) (hr0 : eO rn k x0 = true) {σ : av} {L : Own} (hst : St σ K L) : a7 Tryz.prog G 219 [.ptr bt 0, .ptr bi 0] σ fun v σ' => v = .int .i64 (kT aW k x0) ∧ St σ' K L := by
 refine a8 hG Tryz.func219 rfl (t := (PT.leaf.put (some (.ptr bt 0)) 0).put (some (.ptr bi 0)) 1) (by rfl) (aj (ah rfl (vQ 1 rfl (nT (aj (aR (l := [(0, []), (1, []), (2, []), (3, []), (4, []), (5, []), (6, [])]) (by kernel_rfl) (by kernel_rfl) (an rfl rfl (Ia rfl (hst.dR hbt) rfl) rfl (an rfl rfl (Iz 5 rfl) rfl (an rfl rfl (Ia rfl (hst.dR hbi) rfl) rfl (Ic (e := 82) (m := 4) hw hx0 rfl rfl rfl rfl rfl (fun _ => rfl) (fun p6 vs6 hp6 hl6 hr6 => ?_)))))))))))
 have hr6raw := hr6; obtain ⟨o6, n6, s6, v6, rfl, hk6⟩ := hr6.shape
 refine an rfl rfl (cr hst hp6 rfl (by kernel_rfl) rfl) rfl (dt rfl rfl (It rfl rfl rfl) (fun _ => rfl) (vF hG hrn hregs ht _ _ _ hr6raw hr0 _ _ hst) (fun σ hst => ?_))
 refine ⟨aY, ?_⟩
 refine wQ 1 rfl (ba (ad (aB ?_)))
 exact ay rfl rfl ⟨rfl, hst⟩
theorem zU {G : Cx} (hG : Plain G) {K : KP} {b1 et bt e1 : Nat} {ro1 : Bool} {c0 c1 c2 c3 c4 c5 c6 c7 : AV} (hbt : K bt (.row [.ptr b1 0] e1 ro1)) (to : Int) {σ : av} {L : Own} (hst : St σ K ((b1, .row [c0, c1, c2, c3, c4, c5, c6, c7] et false) :: L)) :
  a7 Tryz.prog G 220 [.int .i64 to, .ptr bt 0] σ fun v σ' => v = .bool true ∧ St σ' K ((b1, .row [c0, c1, .int .i64 to, c3, c4, c5, c6, c7] et false) :: L) := by
 refine a8 hG Tryz.func220 rfl (t := (PT.leaf.put (some (.int .i64 to)) 0).put (some (.ptr bt 0)) 1) (by rfl) (aj (ah rfl (vQ 1 rfl (nS rfl (aa rfl (Ia rfl (hst.dR hbt) rfl) rfl (vQ 1 rfl (aa rfl (dH rfl) rfl (aa rfl (Iz 2 rfl) rfl (bA hst rfl (Io rfl rfl rfl (hst.get 0 rfl) (m := 1) rfl rfl (cells' := [_, _, _, _, _, _, _, _]) rfl) rfl (fun σ hst => ?_))))))))))
 refine nS rfl (vQ 1 rfl (nT (aB ?_)))
 exact ay rfl rfl ⟨rfl, hst⟩
theorem vt {G : Cx} (hG : Plain G) {K : KP} {b1 et bt e1 : Nat} {ro1 : Bool} {c0 c1 c2 c3 c4 c5 c6 c7 : AV} (hbt : K bt (.row [.ptr b1 0] e1 ro1)) (to : Int) {σ : av} {L : Own} (hst : St σ K ((b1, .row [c0, c1, c2, c3, c4, c5, c6, c7] et false) :: L)) :
  a7 Tryz.prog G 221 [.int .i64 to, .ptr bt 0] σ fun v σ' => v = .bool false ∧ St σ' K ((b1, .row [c0, c1, c2, c3, c4, c5, .int .i64 to, c7] et false) :: L) := by
 refine a8 hG Tryz.func221 rfl (t := (PT.leaf.put (some (.int .i64 to)) 0).put (some (.ptr bt 0)) 1) (by rfl) (aj (ah rfl (vQ 1 rfl (nS rfl (aa rfl (Ia rfl (hst.dR hbt) rfl) rfl (vQ 1 rfl (aa rfl (dH rfl) rfl (aa rfl (Iz 6 rfl) rfl (bA hst rfl (Io rfl rfl rfl (hst.get 0 rfl) (m := 1) rfl rfl (cells' := [_, _, _, _, _, _, _, _]) rfl) rfl (fun σ hst => ?_))))))))))
 refine nS rfl (vQ 1 rfl (nT (aB ?_)))
 exact ay rfl rfl ⟨rfl, hst⟩
theorem Fo {G : Cx} (hG : Plain G) {K : KP} {b1 b2 et bt e1 bon e2 : Nat} {ro1 ro2 : Bool} {c0 c1 c3 c4 c5 c6 c7 : AV} {o2 : bF} (hbt : K bt (.row [.ptr b1 0] e1 ro1)) (hbon : K bon (.row [.func 220 [] [.ptr bt 0]] e2 ro2)) (e : cS) {es : List cS} {Me : Own} (hO : eG 5 56 kQ es c4 Me) (hlen : es.length ≤ 1000000) {at_ : Nat} (hat : at_ < 1000000) {σ : av} {L : Own}
  (hst : St σ K ((b1, .row [c0, c1, .int .i64 (.ofNat at_), c3, c4, c5, c6, c7] et false) :: (b2, o2) :: (Me ++ L))) :
  a7 Tryz.prog G 222 [.agg [.int .i64 e.kind, .int .i64 e.loc, .int .i64 e.order, .int .i64 e.read, .int .i64 e.write], .ptr bt 0, .ptr bon 0] σ fun v σ' => ∃ ev' Me', v = .bool true ∧ eG 5 56 kQ (es ++ [e]) ev' Me' ∧ St σ' K ((b1, .row [c0, c1, .int .i64 (.ofNat (at_ + 1)), c3, ev', c5, c6, c7] et false) :: (b2, o2) :: (Me' ++ L)) := by
 refine a8 hG Tryz.func222 rfl (t := ((PT.leaf.put (some (.agg [.int .i64 e.kind, .int .i64 e.loc, .int .i64 e.order, .int .i64 e.read, .int .i64 e.write])) 0).put (some (.ptr bt 0)) 1).put (some (.ptr bon 0)) 2) (by rfl) (aj (ah rfl (bp hst rfl (cU rfl rfl) (fun _ => rfl) (fun σ b3 hst => ?_))))
 refine vQ 1 rfl (nT (aj (aR (l := [(0, []), (1, []), (2, []), (3, []), (4, []), (5, []), (6, []), (7, [0]), (8, []), (9, []), (10, [])]) (by kernel_rfl) (by kernel_rfl) (an rfl rfl (Ia rfl (hst.dR hbt) rfl) rfl (an rfl rfl (Ia rfl (hst.dR hbt) rfl) rfl (an rfl rfl (dH rfl) rfl (an rfl rfl (Iz 4 rfl) rfl (an rfl rfl (Ia rfl (hst.get 1 rfl) rfl) rfl (an rfl rfl (IC rfl (hst.get 0 rfl) (n := 5) (vs := [_, _, _, _, _]) rfl) rfl (sD hst rfl rfl (dy (e := 56) (m := 5) (z := [.int .i64 0, .int .i64 0, .int .i64 0, .int .i64 0, .int .i64 0]) (cs := [_, _, _, _, _]) (by kernel_rfl) (by kernel_rfl) (by kernel_rfl) (by kernel_rfl) (bL rfl rfl rfl rfl cX)) (fun _ => rfl) (fun σ b4 hst => ?_)))))))))))
 replace hst := hst.zr (A := [_, _, _])
 obtain ⟨σ, ev2, Me2, happ, hO2, hst⟩ := eF (P := Tryz.prog) (ts := #[57, 57]) (t := 57) (e := 56) hO hst (uA (x := e) (.inr ⟨rfl, rfl⟩)) kQ.leaf (by simp) (by simp) (by omega) rfl (by kernel_rfl) (by kernel_rfl) (by kernel_rfl)
 replace hst := hst.front (A := Me2) (M := [_, _, _])
 refine eU rfl rfl (dK rfl rfl rfl rfl (by kernel_rfl) happ) rfl ?_
 refine ⟨(bP (cM rfl rfl rfl rfl rfl (Ia rfl (hst.dR hbt) rfl) (yh _ _)) aY), ?_⟩
 refine an rfl rfl (dH rfl) rfl (an rfl rfl (Iz 4 rfl) rfl (zR hst rfl rfl (aJ rfl rfl hO2.leaf.1 (hst.get 1 rfl) (m := 1) (by kernel_rfl) rfl (lb rfl) (ae hO2.leaf.2 az) (cells' := [_, _, _, _, _, _, _, _]) rfl) rfl (fun σ hst => ?_)))
 refine ⟨aY, ?_⟩
 refine ba (ad (aj (aR (l := [(0, []), (1, []), (2, []), (3, []), (4, []), (5, []), (6, []), (7, [])]) (by kernel_rfl) (by kernel_rfl) ?_)))
 replace hst := hst.pop
 refine an rfl rfl (Ia rfl (hst.dR hbon) rfl) rfl (an rfl rfl (Ia rfl (hst.dR hbt) rfl) rfl (an rfl rfl (dH rfl) rfl (an rfl rfl (Iz 2 rfl) rfl (an rfl rfl (Ia rfl (hst.get 0 rfl) rfl) rfl (an rfl rfl (aA rfl rfl (show _ = some (AV.int .i64 (.ofNat (at_ + 1))) from congrArg (fun z => some (AV.int .i64 z)) (bg (by omega)))) rfl (dt rfl rfl (It rfl rfl rfl) (fun _ => rfl) (zU hG hbt _ hst) (fun σ hst => ?_)))))))
 refine ⟨aY, ?_⟩
 refine wQ 1 rfl (ba (ad (aB ?_)))
 exact ay rfl rfl ⟨ev2, Me2, rfl, hO2, hst⟩
theorem CK {G : Cx} (hG : Plain G) {K : KP} {k : Nat} {c : XC} (hc : eY k c) {cv : AV} (hi : bC K 6 (fR K k) c.ins cv) {s : TS} (hs : ID c s) (hsmall : s.events.length ≤ 900000) {b1 b2 : Nat} {ev : AV} {Me : Own} (hO : eG 5 56 kQ s.events ev Me) {σ : av} {L : Own}
  (hst : St σ K ((b1, .row (Ce c cv s b2 ev) 131 false) :: (b2, .row (s.aW.map gZ) 2 false) :: (Me ++ L))) :
  a7 Tryz.prog G 166 [.ptr b1 0] σ fun v σ' => ∃ ev' Me', v = .bool (cm k c s).2 ∧ eG 5 56 kQ (cm k c s).1.events ev' Me' ∧ St σ' K ((b1, .row (Ce c cv (cm k c s).1 b2 ev') 131 false) :: (b2, .row ((cm k c s).1.aW.map gZ) 2 false) :: (Me' ++ L)) := by
 have hlen := hc.len
 have hat := hs.at_
 obtain ⟨x, hx⟩ := cL hat
 have hrx := hc.right x (List.mem_of_getElem? hx)
 have hrn : c.aW ≤ s.aW.length := by have := hs.aW; have := hc.AH; omega
 have hr16 : s.aW.length ≤ 1000 := by have := hs.aW; have := hc.v7; omega
 have hSt : cm k c s = eA k x s := by unfold cm; rw [hx]
 refine a8 hG Tryz.func166 rfl (t := PT.leaf.put (some (.ptr b1 0)) 0) (by rfl) (aj (ah rfl (bp hst rfl (cU rfl rfl) (fun _ => rfl) (fun σ b3 hst => ?_))))
 refine vQ 1 rfl (nT (aj (aR (l := [(0, []), (1, []), (2, []), (3, []), (4, []), (5, []), (6, []), (7, []), (8, []), (9, []), (10, []), (11, []), (12, [])]) (by kernel_rfl) (by kernel_rfl) (an rfl rfl (Ia rfl (hst.get 0 rfl) rfl) rfl (an rfl rfl (dH rfl) rfl (an rfl rfl (Iz 0 rfl) rfl (an rfl rfl (Iz 1 rfl) rfl (an rfl rfl (Ia rfl (hst.get 1 rfl) rfl) rfl (an rfl rfl (Ia rfl (hst.get 0 rfl) rfl) rfl (an rfl rfl (dH rfl) rfl (an rfl rfl (Iz 2 rfl) rfl (an rfl rfl (Ia rfl (hst.get 1 rfl) rfl) rfl ?_))))))))))))
 refine Ic (e := 79) (m := 6) hi hx rfl rfl rfl rfl rfl (fun _ => rfl) (fun p17 vs17 hp17 hl17 hr17 => ?_)
 have hr17raw := hr17; have hr17' := hr17; obtain ⟨v17, rfl, hk17⟩ := hr17'
 refine an rfl rfl (cr hst hp17 rfl (by kernel_rfl) rfl) rfl (ue hst rfl rfl (Ix (cs := [.int .i64 0, .int .i64 0, .int .i64 0, .int .i64 0, .int .i64 0, .aq])) (fun _ => rfl) (fun σ b4 hst => ?_))
 refine lK hst rfl rfl (Io rfl rfl rfl (hst.get 0 rfl) (m := 6) rfl (ae rfl (ae rfl (ae rfl (ae rfl (ae rfl (ae hk17.leaf.2 az)))))) (cells' := [_, _, _, _, _, _]) rfl) rfl (fun σ hst => ?_)
 refine ⟨aY, ?_⟩
 refine ba (ad (aj (ah rfl (vQ 2 rfl (nS rfl (vQ 1 rfl (bp hst rfl (Ix (cs := [.nilFunc])) (fun _ => rfl) (fun σ b5 hst => ?_))))))))
 refine bA hst rfl (Io rfl rfl rfl (hst.get 0 rfl) (m := 1) rfl rfl (cells' := [_]) rfl) rfl (fun σ hst => ?_)
 refine nS rfl (vQ 2 rfl (nS rfl (vQ 2 rfl (nT (aj (aj ?_))))))
 refine ah rfl ?_
 obtain ⟨K1, hle, hmem, hst⟩ := hst.ft (M := [_, _, _])
 have hbon := hmem _ (.head _); have hbi := hmem _ (.tail _ (.head _)); have hbt := hmem _ (.tail _ (.tail _ (.head _))); clear hmem; dsimp only at hbon hbi hbt
 have hw1 := gP hle hk17
 refine aa rfl (Iz 0 rfl) rfl (aa rfl (Ia rfl (hst.dR hbi) rfl) rfl (nT (aP (aj (ah rfl (aL rfl (aA rfl rfl rfl) (fun _ => rfl) (fun h26 => ?_) (fun h26 => ?_)))))))
 ·refine vQ 1 rfl (nT (aC rfl (aj (aR (l := [(0, []), (1, []), (2, []), (3, []), (4, []), (5, []), (6, []), (7, [0, 3, 5]), (8, []), (9, [])]) (by kernel_rfl) (by kernel_rfl) (an rfl rfl (Ia rfl (hst.dR hbt) rfl) rfl (an rfl rfl (dH rfl) rfl (an rfl rfl (Iz 3 rfl) rfl (an rfl rfl (Ia rfl (hst.get 0 rfl) rfl) rfl (an rfl rfl (Iz 1 rfl) rfl (an rfl rfl (Ia rfl (hst.dR hbi) rfl) rfl (wQ 1 rfl ?_)))))))))))
  obtain ⟨e34, he34, hre34⟩ := pL hrx (eqv (b := .ofNat 1) h26) (by omega)
  have hq := hst.keeps (M := [_, _])
  refine dt rfl rfl (It rfl rfl rfl) (fun _ => rfl) (jb (M := [_, _]) hst (pQ hG (rn := c.aW) hrn (ee (xs := s.aW) (KP.eQ 1 rfl) hr16) (KP.eQ 0 rfl) (KP.cQ _ _ _ _ hbt) (KP.cQ _ _ _ _ hbi) (gP (KP.cQ _ _) hw1) he34 hre34 hq)) (fun σ hst => ?_)
  clear hq
  have hV34 := (dU (k := k) (aW := s.aW) he34).symm
  refine ⟨(bP (cM rfl rfl rfl rfl rfl (Ia rfl (hst.dR hbt) rfl) (yh _ _)) (bP (cM rfl rfl rfl rfl rfl (Ia rfl (hst.get 0 rfl) rfl) (nA _ _ _ _)) (bP (cM rfl rfl rfl rfl rfl (Ia rfl (hst.dR hbi) rfl) (pk _ _)) aY))), ?_⟩
  obtain ⟨rg, hrg, hrgn⟩ := D1 hrx (eqv (b := .ofNat 1) h26) (by omega)
  refine an rfl rfl (ej (e := 2) (m := 1) (by kernel_rfl) (by kernel_rfl) rfl (show _ = some (AV.int .i64 (.ofNat rg)) from congrArg (fun z => some (AV.int .i64 z)) hrg) (by omega)) rfl (l8 hst (.there .here) rfl rfl (aJ rfl rfl rfl (hst.get 1 rfl) (m := 1) (by kernel_rfl) rfl (by rw [List.length_map]; omega) rfl (cells' := ((s.aW).set rg (kT s.aW k e34)).map (gZ)) (fb (f := gZ) (v := (kT s.aW k e34)) (by omega) (by first | omega | rfl))) rfl (fun σ hst => ?_))
  refine ⟨aY, ?_⟩
  refine ba (ad (aj (aR (l := [(0, []), (1, []), (2, []), (3, []), (4, []), (5, []), (6, []), (7, [])]) (by kernel_rfl) (by kernel_rfl) (an rfl rfl (Ia rfl (hst.dR hbon) rfl) rfl (an rfl rfl (Ia rfl (hst.dR hbt) rfl) rfl (an rfl rfl (dH rfl) rfl (an rfl rfl (Iz 2 rfl) rfl (an rfl rfl (Ia rfl (hst.get 0 rfl) rfl) rfl (an rfl rfl (aA rfl rfl (show _ = some (AV.int .i64 (.ofNat (s.at_ + 1))) from congrArg (fun z => some (AV.int .i64 z)) (bg (by omega)))) rfl (dt rfl rfl (It rfl rfl rfl) (fun _ => rfl) (zU hG hbt _ hst) (fun σ hst => ?_)))))))))))
  refine ⟨aY, ?_⟩
  refine wQ 1 rfl (ba (ad (aB (aD (au (?_))))))
  have hS : cm k c s = ({ s with aW := s.aW.set x.tN.toNat (kT s.aW k e34), at_ := s.at_ + 1 }, true) := by rw [hSt]; unfold eA; simp only [h26, dU he34, cond_true, cond_false]
  have hst := hst.weaken hle
  refine ay rfl rfl ⟨ev, Me, by rw [hS], by rw [hS]; exact hO, ?_⟩
  rw [hS]
  show St _ _ ((b1, .row [_, _, _, .slice b2 0 (s.aW.set x.tN.toNat _).length (.known (s.aW.set x.tN.toNat _).length), _, _, _, _] 131 false) :: (b2, .row ((s.aW.set x.tN.toNat _).map gZ) 2 false) :: _)
  rw [List.length_set, hrg]
  exact hst
 ·refine vQ 1 rfl (nT (aI rfl (aj (ah rfl (aL rfl (aA rfl rfl rfl) (fun _ => rfl) (fun h44 => ?_) (fun h44 => ?_))))))
  ·refine vQ 1 rfl (nT (aC rfl (aj (aR (l := [(0, []), (1, []), (2, []), (3, []), (4, []), (5, []), (6, [2, 4]), (7, []), (8, []), (9, [])]) (by kernel_rfl) (by kernel_rfl) (wQ 1 rfl (an rfl rfl (Iz 2 rfl) rfl (an rfl rfl (Ia rfl (hst.dR hbi) rfl) rfl (an rfl rfl (Iz 3 rfl) rfl (an rfl rfl (Ia rfl (hst.dR hbi) rfl) rfl (wQ 1 rfl ?_))))))))))
   obtain ⟨e51, he51, hre51⟩ := pL hrx (eqv (b := .ofNat 3) h44) (by omega)
   have hq := hst.keeps (M := [_, _])
   refine dt rfl rfl (It rfl rfl rfl) (fun _ => rfl) (jb (M := [_, _]) hst (pQ hG (rn := c.aW) hrn (ee (xs := s.aW) (KP.eQ 1 rfl) hr16) (KP.eQ 0 rfl) (KP.cQ _ _ _ _ hbt) (KP.cQ _ _ _ _ hbi) (gP (KP.cQ _ _) hw1) he51 hre51 hq)) (fun σ hst => ?_)
   clear hq
   have hV51 := (dU (k := k) (aW := s.aW) he51).symm
   refine ⟨(bP (cM rfl rfl rfl rfl rfl (Ia rfl (hst.dR hbi) rfl) (pk _ _)) (bP (cM rfl rfl rfl rfl rfl (Ia rfl (hst.dR hbi) rfl) (pk _ _)) aY)), ?_⟩
   refine an rfl rfl (Is (places := [(0, 1), (1, 1), (2, 1), (3, 1), (4, 1)]) (zero := [.int .i64 0, .int .i64 0, .int .i64 0, .int .i64 0, .int .i64 0]) (cs := [_, _, _, _, _]) rfl) rfl (gR rfl rfl (It rfl rfl rfl) (fun _ => rfl) (Fo hG hbt hbon ⟨2, x.loc, x.order, 0, kT s.aW k e51⟩ hO (by omega) (by omega) hst) ?_)
   rintro _ σ ⟨ev2, Me2, rfl, hO2, hst⟩
   refine ⟨aY, ?_⟩
   refine wQ 1 rfl (ba (ad (aB (aD (au (?_))))))
   have hS : cm k c s = ({ s with events := s.events ++ [⟨2, x.loc, x.order, 0, kT s.aW k e51⟩], at_ := s.at_ + 1 }, true) := by rw [hSt]; unfold eA; simp only [h26, h44, dU he51, cond_true, cond_false]
   have hst := hst.weaken hle
   exact ay rfl rfl ⟨ev2, Me2, by rw [hS], by rw [hS]; exact hO2, by rw [hS]; exact hst⟩
  ·refine vQ 1 rfl (nT (aI rfl (aj (ah rfl (aL rfl (aA rfl rfl rfl) (fun _ => rfl) (fun h55 => ?_) (fun h55 => ?_))))))
   ·refine vQ 1 rfl (nT (aC rfl (aj (ah rfl (vQ 1 rfl (aa rfl (Iz 3 rfl) rfl (aa rfl (Ia rfl (hst.dR hbi) rfl) rfl (aa rfl (Is (places := [(0, 1), (1, 1), (2, 1), (3, 1), (4, 1)]) (zero := [.int .i64 0, .int .i64 0, .int .i64 0, .int .i64 0, .int .i64 0]) (cs := [_, _, _, _, _]) rfl) rfl (cJ rfl (It rfl rfl rfl) (fun _ => rfl) (Fo hG hbt hbon ⟨4, 0, x.order, 0, 0⟩ hO (by omega) (by omega) hst) ?_)))))))))
    rintro _ σ ⟨ev2, Me2, rfl, hO2, hst⟩
    refine vQ 1 rfl (nT (aB (aD (au (?_)))))
    have hS : cm k c s = ({ s with events := s.events ++ [⟨4, 0, x.order, 0, 0⟩], at_ := s.at_ + 1 }, true) := by rw [hSt]; unfold eA; simp only [h26, h44, h55, cond_true, cond_false]
    have hst := hst.weaken hle
    exact ay rfl rfl ⟨ev2, Me2, by rw [hS], by rw [hS]; exact hO2, by rw [hS]; exact hst⟩
   ·refine vQ 1 rfl (nT (aI rfl (aj (ah rfl (aL rfl (aA rfl rfl rfl) (fun _ => rfl) (fun h62 => ?_) (fun h62 => ?_))))))
    ·refine vQ 1 rfl (nT (aC rfl (aj (aj (ah rfl (vQ 1 rfl ?_))))))
     obtain ⟨e64, he64, hre64⟩ := pL hrx (eqv (b := .ofNat 8) h62) (by omega)
     have hq := hst.keeps (M := [_, _])
     refine a9 rfl (It rfl rfl rfl) (fun _ => rfl) (jb (M := [_, _]) hst (pQ hG (rn := c.aW) hrn (ee (xs := s.aW) (KP.eQ 1 rfl) hr16) (KP.eQ 0 rfl) (KP.cQ _ _ _ _ hbt) (KP.cQ _ _ _ _ hbi) (gP (KP.cQ _ _) hw1) he64 hre64 hq)) (fun σ hst => ?_)
     clear hq
     have hV64 := (dU (k := k) (aW := s.aW) he64).symm
     refine vQ 1 rfl (nT (aE rfl (fun h65 => ?_) (fun h65 => ?_)))
     ·refine aj (ah rfl (vQ 1 rfl (a9 rfl (It rfl rfl rfl) (fun _ => rfl) (vt hG hbt _ hst) (fun σ hst => ?_))))
      refine vQ 1 rfl (nT (aB (au (aD (au (?_))))))
      have hS : cm k c s = ({ s with fin := 2 }, false) := by rw [hSt]; unfold eA; simp only [h26, h44, h55, h62, dU he64, h65, cond_true, cond_false]
      have hst := hst.weaken hle
      exact ay rfl rfl ⟨ev, Me, by rw [hS], by rw [hS]; exact hO, by rw [hS]; exact hst⟩
     ·refine aF (ad (aj (aR (l := [(0, []), (1, []), (2, []), (3, []), (4, []), (5, []), (6, []), (7, [])]) (by kernel_rfl) (by kernel_rfl) (an rfl rfl (Ia rfl (hst.dR hbon) rfl) rfl (an rfl rfl (Ia rfl (hst.dR hbt) rfl) rfl (an rfl rfl (dH rfl) rfl (an rfl rfl (Iz 2 rfl) rfl (an rfl rfl (Ia rfl (hst.get 0 rfl) rfl) rfl (an rfl rfl (aA rfl rfl (show _ = some (AV.int .i64 (.ofNat (s.at_ + 1))) from congrArg (fun z => some (AV.int .i64 z)) (bg (by omega)))) rfl (dt rfl rfl (It rfl rfl rfl) (fun _ => rfl) (zU hG hbt _ hst) (fun σ hst => ?_)))))))))))
      refine ⟨aY, ?_⟩
      refine wQ 1 rfl (ba (ad (aB (aD (au (?_))))))
      have hS : cm k c s = ({ s with at_ := s.at_ + 1 }, true) := by rw [hSt]; unfold eA; simp only [h26, h44, h55, h62, dU he64, h65, cond_true, cond_false]
      have hst := hst.weaken hle
      exact ay rfl rfl ⟨ev, Me, by rw [hS], by rw [hS]; exact hO, by rw [hS]; exact hst⟩
    ·refine vQ 1 rfl (nT (aI rfl (aj (ah rfl (aL rfl (aA rfl rfl rfl) (fun _ => rfl) (fun h76 => ?_) (fun h76 => ?_))))))
     ·refine vQ 1 rfl (nT (aC rfl (aj (aj (ah rfl (vQ 1 rfl ?_))))))
      obtain ⟨e78, he78, hre78⟩ := pL hrx (eqv (b := .ofNat 9) h76) (by omega)
      have hq := hst.keeps (M := [_, _])
      refine a9 rfl (It rfl rfl rfl) (fun _ => rfl) (jb (M := [_, _]) hst (pQ hG (rn := c.aW) hrn (ee (xs := s.aW) (KP.eQ 1 rfl) hr16) (KP.eQ 0 rfl) (KP.cQ _ _ _ _ hbt) (KP.cQ _ _ _ _ hbi) (gP (KP.cQ _ _) hw1) he78 hre78 hq)) (fun σ hst => ?_)
      clear hq
      have hV78 := (dU (k := k) (aW := s.aW) he78).symm
      refine vQ 1 rfl (nT (aE rfl (fun h79 => ?_) (fun h79 => ?_)))
      ·refine aj (ah rfl (vQ 1 rfl (a9 rfl (It rfl rfl rfl) (fun _ => rfl) (vt hG hbt _ hst) (fun σ hst => ?_))))
       refine vQ 1 rfl (nT (aB (au (aD (au (?_))))))
       have hS : cm k c s = ({ s with fin := 3 }, false) := by rw [hSt]; unfold eA; simp only [h26, h44, h55, h62, h76, dU he78, h79, cond_true, cond_false]
       have hst := hst.weaken hle
       exact ay rfl rfl ⟨ev, Me, by rw [hS], by rw [hS]; exact hO, by rw [hS]; exact hst⟩
      ·refine aF (ad (aj (aR (l := [(0, []), (1, []), (2, []), (3, []), (4, []), (5, []), (6, []), (7, [])]) (by kernel_rfl) (by kernel_rfl) (an rfl rfl (Ia rfl (hst.dR hbon) rfl) rfl (an rfl rfl (Ia rfl (hst.dR hbt) rfl) rfl (an rfl rfl (dH rfl) rfl (an rfl rfl (Iz 2 rfl) rfl (an rfl rfl (Ia rfl (hst.get 0 rfl) rfl) rfl (an rfl rfl (aA rfl rfl (show _ = some (AV.int .i64 (.ofNat (s.at_ + 1))) from congrArg (fun z => some (AV.int .i64 z)) (bg (by omega)))) rfl (dt rfl rfl (It rfl rfl rfl) (fun _ => rfl) (zU hG hbt _ hst) (fun σ hst => ?_)))))))))))
       refine ⟨aY, ?_⟩
       refine wQ 1 rfl (ba (ad (aB (aD (au (?_))))))
       have hS : cm k c s = ({ s with at_ := s.at_ + 1 }, true) := by rw [hSt]; unfold eA; simp only [h26, h44, h55, h62, h76, dU he78, h79, cond_true, cond_false]
       have hst := hst.weaken hle
       exact ay rfl rfl ⟨ev, Me, by rw [hS], by rw [hS]; exact hO, by rw [hS]; exact hst⟩
     ·refine vQ 1 rfl (nT (aI rfl (aj (ah rfl (aL rfl (aA rfl rfl rfl) (fun _ => rfl) (fun h90 => ?_) (fun h90 => ?_))))))
      ·refine vQ 1 rfl (nT (aC rfl (aj (ah rfl (aa rfl (Ia rfl (hst.dR hbon) rfl) rfl (aa rfl (Iz 4 rfl) rfl (aa rfl (Ia rfl (hst.dR hbi) rfl) rfl (a9 rfl (It rfl rfl rfl) (fun _ => rfl) (zU hG hbt _ hst) (fun σ hst => ?_)))))))))
       refine vQ 1 rfl (nT (aB (aD (au (?_)))))
       have hS : cm k c s = ({ s with at_ := x.to.toNat }, true) := by rw [hSt]; unfold eA; simp only [h26, h44, h55, h62, h76, h90, cond_true, cond_false]
       have hst := hst.weaken hle
       refine ay rfl rfl ⟨ev, Me, by rw [hS], by rw [hS]; exact hO, ?_⟩
       rw [hS]
       obtain ⟨rt, hrt, _⟩ := FB hrx (eqv (b := .ofNat 10) h90) (by omega)
       rw [hrt] at hst ⊢
       exact hst
      ·refine vQ 1 rfl (nT (aI rfl (aj (ah rfl (aL rfl (aA rfl rfl rfl) (fun _ => rfl) (fun h96 => ?_) (fun h96 => ?_))))))
       ·refine vQ 1 rfl (nT (aC rfl (aj (aj (ah rfl (vQ 1 rfl ?_))))))
        obtain ⟨e98, he98, hre98⟩ := pL hrx (eqv (b := .ofNat 11) h96) (by omega)
        have hq := hst.keeps (M := [_, _])
        refine a9 rfl (It rfl rfl rfl) (fun _ => rfl) (jb (M := [_, _]) hst (pQ hG (rn := c.aW) hrn (ee (xs := s.aW) (KP.eQ 1 rfl) hr16) (KP.eQ 0 rfl) (KP.cQ _ _ _ _ hbt) (KP.cQ _ _ _ _ hbi) (gP (KP.cQ _ _) hw1) he98 hre98 hq)) (fun σ hst => ?_)
        clear hq
        have hV98 := (dU (k := k) (aW := s.aW) he98).symm
        refine vQ 1 rfl (nT (aE rfl (fun h99 => ?_) (fun h99 => ?_)))
        ·refine aj (ah rfl (aa rfl (Ia rfl (hst.dR hbon) rfl) rfl (aa rfl (Iz 4 rfl) rfl (aa rfl (Ia rfl (hst.dR hbi) rfl) rfl (a9 rfl (It rfl rfl rfl) (fun _ => rfl) (zU hG hbt _ hst) (fun σ hst => ?_))))))
         refine vQ 1 rfl (nT (aB (au (aD (au (?_))))))
         have hS : cm k c s = ({ s with at_ := x.to.toNat }, true) := by rw [hSt]; unfold eA; simp only [h26, h44, h55, h62, h76, h90, h96, dU he98, h99, cond_true, cond_false]
         have hst := hst.weaken hle
         refine ay rfl rfl ⟨ev, Me, by rw [hS], by rw [hS]; exact hO, ?_⟩
         rw [hS]
         obtain ⟨rt, hrt, _⟩ := FB hrx (eqv (b := .ofNat 11) h96) (by omega)
         rw [hrt] at hst ⊢
         exact hst
        ·refine aF (ad (aj (aR (l := [(0, []), (1, []), (2, []), (3, []), (4, []), (5, []), (6, []), (7, [])]) (by kernel_rfl) (by kernel_rfl) (an rfl rfl (Ia rfl (hst.dR hbon) rfl) rfl (an rfl rfl (Ia rfl (hst.dR hbt) rfl) rfl (an rfl rfl (dH rfl) rfl (an rfl rfl (Iz 2 rfl) rfl (an rfl rfl (Ia rfl (hst.get 0 rfl) rfl) rfl (an rfl rfl (aA rfl rfl (show _ = some (AV.int .i64 (.ofNat (s.at_ + 1))) from congrArg (fun z => some (AV.int .i64 z)) (bg (by omega)))) rfl (dt rfl rfl (It rfl rfl rfl) (fun _ => rfl) (zU hG hbt _ hst) (fun σ hst => ?_)))))))))))
         refine ⟨aY, ?_⟩
         refine wQ 1 rfl (ba (ad (aB (aD (au (?_))))))
         have hS : cm k c s = ({ s with at_ := s.at_ + 1 }, true) := by rw [hSt]; unfold eA; simp only [h26, h44, h55, h62, h76, h90, h96, dU he98, h99, cond_true, cond_false]
         have hst := hst.weaken hle
         exact ay rfl rfl ⟨ev, Me, by rw [hS], by rw [hS]; exact hO, by rw [hS]; exact hst⟩
       ·refine vQ 1 rfl (nT (aI rfl (aj (ah rfl (aL rfl (aA rfl rfl rfl) (fun _ => rfl) (fun h112 => ?_) (fun h112 => ?_))))))
        ·refine vQ 1 rfl (nT (aC rfl (aj (ah rfl (vQ 1 rfl (a9 rfl (It rfl rfl rfl) (fun _ => rfl) (vt hG hbt _ hst) (fun σ hst => ?_)))))))
         refine vQ 1 rfl (nT (aB (aD (au (?_)))))
         have hS : cm k c s = ({ s with fin := 4 }, false) := by rw [hSt]; unfold eA; simp only [h26, h44, h55, h62, h76, h90, h96, h112, cond_true, cond_false]
         have hst := hst.weaken hle
         exact ay rfl rfl ⟨ev, Me, by rw [hS], by rw [hS]; exact hO, by rw [hS]; exact hst⟩
        ·refine vQ 1 rfl (nT (aI rfl (aj (ah rfl (aL rfl (aA rfl rfl rfl) (fun _ => rfl) (fun h116 => ?_) (fun h116 => ?_))))))
         ·refine vQ 1 rfl (nT (aC rfl (aj (ah rfl (vQ 1 rfl (a9 rfl (It rfl rfl rfl) (fun _ => rfl) (vt hG hbt _ hst) (fun σ hst => ?_)))))))
          refine vQ 1 rfl (nT (aB (aD (au (?_)))))
          have hS : cm k c s = ({ s with fin := 1 }, false) := by rw [hSt]; unfold eA; simp only [h26, h44, h55, h62, h76, h90, h96, h112, h116, cond_true, cond_false]
          have hst := hst.weaken hle
          exact ay rfl rfl ⟨ev, Me, by rw [hS], by rw [hS]; exact hO, by rw [hS]; exact hst⟩
         ·refine vQ 1 rfl (nT (aI rfl (aF (aK (ad (aj (ah rfl (aa rfl (Ia rfl (hst.dR hbt) rfl) rfl (aa rfl (dH rfl) rfl (aa rfl (Iz 7 rfl) rfl (bA hst rfl (Io rfl rfl rfl (hst.get 0 rfl) (m := 1) rfl rfl (cells' := [_, _, _, _, _, _, _, _]) rfl) rfl (fun σ hst => ?_))))))))))))
          refine nS rfl (vQ 1 rfl (nT (aB ?_)))
          have hS : cm k c s = ({ s with asks := true }, false) := by rw [hSt]; unfold eA; simp only [h26, h44, h55, h62, h76, h90, h96, h112, h116, cond_true, cond_false]
          have hst := hst.weaken hle
          exact ay rfl rfl ⟨ev, Me, by rw [hS], by rw [hS]; exact hO, by rw [hS]; exact hst⟩
end Go.Ev
namespace Go.Ev
variable [Env]
structure vh (c : XC) (out : List Nat) (s : TS) : Prop where
 at_ : s.at_ ∈ out
 aW : s.aW.length = c.aW.toNat
theorem yF {k : Nat} {c : XC} {s : TS} (h : (cm k c s).2 = false) : (cm k c s).1.at_ = s.at_ := by
 obtain ⟨P, hP⟩ : ∃ P : TS × Bool → Prop, P = fun r => r.2 = false → r.1.at_ = s.at_ := ⟨_, rfl⟩
 have hy : ∀ r : TS × Bool, r.2 = true → P r := fun r h1 => by rw [hP]; intro h2; rw [h1] at h2; cases h2
 have hn : ∀ r : TS × Bool, r.1.at_ = s.at_ → P r := fun r h1 => by rw [hP]; exact fun _ => h1
 have : P (cm k c s) := by
  unfold cm
  cases hx : c.ins[s.at_]? with
  | none => exact hn _ rfl
  | some x =>
   dsimp only
   unfold eA
   exact bE _ (hy _ rfl) (bE _ (hy _ rfl) (bE _ (hy _ rfl) (bE _ (bE _ (hn _ rfl) (hy _ rfl)) (bE _ (bE _ (hn _ rfl) (hy _ rfl)) (bE _ (hy _ rfl) (bE _ (bE _ (hy _ rfl) (hy _ rfl)) (bE _ (hn _ rfl) (bE _ (hn _ rfl) (hn _ rfl)))))))))
 rw [hP] at this; exact this h
theorem vh.lt {c : XC} {out : List Nat} {s : TS} (h : vh c out s) (hR : ia (dw c) c.ins.length out) : s.at_ < c.ins.length := hR.lt _ h.at_
theorem vh.step {k : Nat} {c : XC} {out : List Nat} {s : TS} (h : vh c out s) (hR : ia (dw c) c.ins.length out) : vh c out (cm k c s).1 := by
 refine ⟨?_, by rw [nB.1]; exact h.aW⟩
 cases hb : (cm k c s).2 with
 | false => rw [yF hb]; exact h.at_
 | true =>
  obtain ⟨x, hx⟩ := cL (h.lt hR)
  obtain ⟨q, hq⟩ := List.getElem?_of_mem h.at_
  obtain ⟨q', _, hq'⟩ := hR.FV q _ hq _ (rU hx hb)
  exact List.mem_of_getElem? hq'
theorem za {k : Nat} {c : XC} {out : List Nat} (hR : ia (dw c) c.ins.length out) : ∀ {f : Nat} {s : TS}, vh c out s → vh c out (tP k c f s) ∧ (tP k c f s).events.length ≤ s.events.length + f
 | 0, s, h => ⟨h, Nat.le_refl _⟩
 | f + 1, s, h => by
  have h1 := h.step (k := k) hR
  have h2 := (nB (k := k) (c := c) (s := s)).2
  obtain ⟨h3, h4⟩ := za (k := k) hR (f := f) h1
  show vh c out (bif (cm k c s).2 then tP k c f (cm k c s).1 else (cm k c s).1) ∧ (bif (cm k c s).2 then tP k c f (cm k c s).1 else (cm k c s).1).events.length ≤ _
  cases (cm k c s).2 with
  | true => exact ⟨h3, by simp only [cond_true]; omega⟩
  | false => exact ⟨h1, by simp only [cond_false]; omega⟩
theorem AR {k : Nat} {c : XC} {j : Nat} {s : TS} (hj : 1 ≤ j) (h : (cm k c s).2 = true) : tP k c j s = tP k c (j - 1) (cm k c s).1 := by
 obtain ⟨i, rfl⟩ : ∃ i, j = i + 1 := ⟨j - 1, by omega⟩
 show (bif (cm k c s).2 then _ else _) = _
 rw [h]; rfl
theorem CM {k : Nat} {c : XC} {j : Nat} {s : TS} (hj : 1 ≤ j) (h : (cm k c s).2 = false) : tP k c j s = (cm k c s).1 := by
 obtain ⟨i, rfl⟩ : ∃ i, j = i + 1 := ⟨j - 1, by omega⟩
 show (bif (cm k c s).2 then _ else _) = _
 rw [h]; rfl
theorem ui {k : Nat} {c : XC} {out : List Nat} {s : TS} {x : XI} {q : Nat} (hR : ia (dw c) c.ins.length out) (hx : c.ins[s.at_]? = some x) (hq : out[q]? = some s.at_) (h : (cm k c s).2 = true) : ∃ q', q' < q ∧ out[q']? = some (cm k c s).1.at_ := hR.FV q _ hq _ (rU hx h)
def me (c : XC) : TS := ⟨0, List.replicate c.aW.toNat 0, [], 0, 0, false⟩
theorem xR {c : XC} {out : List Nat} (hR : ia (dw c) c.ins.length out) : vh c out (me c) := ⟨hR.zero, List.length_replicate ..⟩
theorem Bg {k : Nat} {c : XC} {out : List Nat} (ho : eR c = some out) (hR : ia (dw c) c.ins.length out) : vh c out (gk k c) ∧ (gk k c).events.length ≤ out.length := by
 obtain ⟨h1, h2⟩ := za (k := k) hR (f := iw c) (xR hR)
 have : iw c = out.length := by unfold iw; rw [ho]; rfl
 refine ⟨h1, ?_⟩
 have h3 : (me c).events.length = 0 := rfl
 rw [h3, this] at h2
 show (tP k c (iw c) (me c)).events.length ≤ _
 rw [this]; omega
theorem qB {k : Nat} {c : XC} (hc : eY k c) {out : List Nat} (hR : ia (dw c) c.ins.length out) {s : TS} (h : vh c out s) (ha : jL c s) (hs : s.asks = true) (v : Int) : vh c out (fe k c s v) := by
 refine ⟨?_, by show (s.aW.set _ _).length = _; rw [List.length_set]; exact h.aW⟩
 obtain ⟨x, hx, hk⟩ := ha hs
 obtain ⟨q, hq⟩ := List.getElem?_of_mem h.at_
 have : s.at_ + 1 ∈ dw c s.at_ := by
  unfold dw
  rw [hx]
  dsimp only
  unfold eB
  rcases hk with hk | hk | hk | hk <;> rw [hk] <;> show s.at_ + 1 ∈ [s.at_ + 1] <;> simp
 obtain ⟨q', _, hq'⟩ := hR.FV q _ hq _ this
 exact List.mem_of_getElem? hq'
theorem y9 {k : Nat} {c : XC} (hc : eY k c) {out : List Nat} (ho : eR c = some out) (hR : ia (dw c) c.ins.length out) {s : TS} (h : vh c out s) (ha : jL c s) (hs : s.asks = true) (v : Int) :
  vh c out (di k c s v) ∧ (di k c s v).events.length ≤ s.events.length + 1 + out.length ∧ (di k c s v).asked = s.asked + 1 := by
 obtain ⟨h1, h2⟩ := za (k := k) hR (f := iw c) (qB hc hR h ha hs v)
 have hf : iw c = out.length := by unfold iw; rw [ho]; rfl
 refine ⟨h1, ?_, (lG k c (iw c) (fe k c s v)).2⟩
 have : (fe k c s v).events.length = s.events.length + 1 := by show (s.events ++ [_]).length = _; simp
 rw [this, hf] at h2
 unfold di
 rw [hf]; exact h2
theorem m9 {es : List cS} {i : Nat} {e : cS} (h : es[i]? = some e) : cG (es.take (i + 1)) = cG (es.take i) ++ (bif dN e then [e.read] else []) := by
 rw [List.take_add_one, h, fw]
 show cG _ ++ cG [e] = _
 cases hr : dN e with
 | true => rw [oz hr]; rfl
 | false => rw [qy hr]; rfl
theorem qt (es : List cS) : (cG es).length ≤ es.length := by unfold cG; rw [List.length_map]; exact List.length_filter_le ..
theorem Cn {k : Nat} {c : XC} {A : List Int} {i : Nat} {v : Int} {s : TS} (h : A[i]? = some v) (ha : s.asks = true) : jo k c (A.drop i) s = jo k c (A.drop (i + 1)) (di k c s v) := by
 rw [bV h]
 show (bif s.asks then _ else _) = _
 rw [ha]; rfl
theorem EF {k : Nat} {c : XC} {A : List Int} {i : Nat} {v : Int} {s : TS} (h : A[i]? = some v) (ha : s.asks = false) : jo k c (A.drop i) s = s := by
 rw [bV h]
 show (bif s.asks then _ else _) = _
 rw [ha]; rfl
theorem Dc {k : Nat} {c : XC} {A : List Int} {i : Nat} {s : TS} (h : A.length ≤ i) : jo k c (A.drop i) s = s := by rw [eD h]; rfl
def BL (n : n8) : List AV := ints n.event.ints ++ ints n.ask.ints ++ [.int .i64 n.fin]
end Go.Ev
namespace Go.Ev
variable [Env]
open Go.Proofs
set_option maxRecDepth 4000
set_option maxHeartbeats 8000000
theorem Fs {G : Cx} (hG : Plain G) {K : KP} {k : Nat} {c : XC} {cv : AV} (hi : bC K 6 (fR K k) c.ins cv) {at_ : Nat} {aW : List Int} (hrn : c.aW ≤ aW.length) {x : XI} (hx : c.ins[at_]? = some x) (hrx : fG c.aW (.ofNat c.ins.length) k x = true) {regv : AV} (hregs : bC K 1 dE aW regv) {tb et : Nat} {ro : Bool} {c0 c4 c5 c6 c7 : AV} (ht : K tb (.row [c0, cv, .int .i64 (.ofNat at_), regv, c4, c5, c6, c7] et ro))
  {σ : av} {L : Own} (hst : St σ K L) : a7 Tryz.prog G 81 [.ptr tb 0] σ fun v σ' => v = .agg (ints (EG k x aW).ints) ∧ St σ' K L := by
 obtain ⟨_, sh, _, _, _, _, hrr⟩ := hY hrx
 have hall := (hH hrr).all
 refine a8 hG Tryz.func81 rfl (t := PT.leaf.put (some (.ptr tb 0)) 0) (by rfl) (aj (ah rfl (bp hst rfl (Ix (cs := [.int .i64 0, .int .i64 0, .int .i64 0, .int .i64 0, .int .i64 0])) (fun _ => rfl) (fun σ b1 hst => ?_))))
 refine nT (aj (aR (l := [(0, []), (1, []), (2, []), (3, []), (4, []), (5, []), (6, []), (7, []), (8, []), (9, []), (10, []), (11, []), (12, [])]) (by kernel_rfl) (by kernel_rfl) (wQ 1 rfl (an rfl rfl (dH rfl) rfl (an rfl rfl (Iz 0 rfl) rfl (an rfl rfl (Iz 1 rfl) rfl (an rfl rfl (Ia rfl (hst.dR ht) rfl) rfl (wQ 1 rfl (an rfl rfl (dH rfl) rfl (an rfl rfl (Iz 2 rfl) rfl (an rfl rfl (Ia rfl (hst.dR ht) rfl) rfl (Ic (e := 79) (m := 6) hi hx rfl rfl rfl rfl rfl (fun _ => rfl) (fun p14 vs14 hp14 hl14 hr14 => ?_)))))))))))))
 have hr14raw := hr14; have hr14' := hr14; obtain ⟨v14, rfl, hk14⟩ := hr14'
 refine an rfl rfl (cr hst hp14 rfl (by kernel_rfl) rfl) rfl (ue hst rfl rfl (Ix (cs := [.int .i64 0, .int .i64 0, .int .i64 0, .int .i64 0, .int .i64 0, .aq])) (fun _ => rfl) (fun σ b2 hst => ?_))
 refine lK hst rfl rfl (Io rfl rfl rfl (hst.get 0 rfl) (m := 6) rfl (ae rfl (ae rfl (ae rfl (ae rfl (ae rfl (ae hk14.leaf.2 az)))))) (cells' := [_, _, _, _, _, _]) rfl) rfl (fun σ hst => ?_)
 refine ⟨aY, ?_⟩
 refine ba (ad (aj (ah rfl (aa rfl (Iz 0 rfl) rfl (aa rfl (Ia rfl (hst.get 0 rfl) rfl) rfl (aa rfl (Iz 2 rfl) rfl (aa rfl (Ia rfl (hst.get 0 rfl) rfl) rfl (aa rfl (Iz 3 rfl) rfl (aa rfl (Ia rfl (hst.get 0 rfl) rfl) rfl (aa rfl (Is (places := [(0, 1), (1, 1), (2, 1), (3, 1), (4, 1)]) (zero := [.int .i64 0, .int .i64 0, .int .i64 0, .int .i64 0, .int .i64 0]) (cs := [_, _, _, _, _]) rfl) rfl (bp hst rfl (Ix (cs := [.int .i64 0, .int .i64 0, .int .i64 0, .int .i64 0, .int .i64 0])) (fun _ => rfl) (fun σ b3 hst => ?_))))))))))))
 refine bA hst rfl (Io rfl rfl rfl (hst.get 0 rfl) (m := 5) rfl rfl (cells' := [_, _, _, _, _]) rfl) rfl (fun σ hst => ?_)
 refine nT (aj (aj (ah rfl (aa rfl (Iz 5 rfl) rfl (aa rfl (Ia rfl (hst.get 1 rfl) rfl) rfl (aa rfl (H9 hk14 rfl rfl rfl (e := 82) rfl) rfl (vQ 1 rfl (nT (aE rfl (fun h26 => ?_) (fun h26 => ?_))))))))))
 ·refine ah rfl (vQ 1 rfl (aa rfl (Iz 5 rfl) rfl (aa rfl (Ia rfl (hst.get 1 rfl) rfl) rfl ?_)))
  obtain ⟨x30, hx30⟩ := cL (show 0 < x.exprs.length from bW (a := 0) h26)
  refine Ib (e := 82) (m := 4) hk14 hx30 rfl rfl rfl rfl (fun _ => rfl) (fun p30 vs30 hp30 hl30 hr30 => ?_)
  have hr30raw := hr30; obtain ⟨o30, n30, s30, v30, rfl, hk30⟩ := hr30.shape
  refine aa rfl (cr hst hp30 rfl (by kernel_rfl) rfl) rfl (a9 rfl (It rfl rfl rfl) (fun _ => rfl) (vF hG hrn hregs ht _ _ _ hr30raw (hall x30 (List.mem_of_getElem? hx30)) _ _ hst) (fun σ hst => ?_))
  refine aa rfl (Iz 3 rfl) rfl (bA hst rfl (Io rfl rfl rfl (hst.get 0 rfl) (m := 1) rfl rfl (cells' := [_, _, _, _, _]) rfl) rfl (fun σ hst => ?_))
  refine nT (aj (aj (ah rfl (aa rfl (Iz 5 rfl) rfl (aa rfl (Ia rfl (hst.get 1 rfl) rfl) rfl (aa rfl (H9 hk14 rfl rfl rfl (e := 82) rfl) rfl (vQ 1 rfl (nT (aE rfl (fun h37 => ?_) (fun h37 => ?_))))))))))
  ·refine ah rfl (vQ 1 rfl (aa rfl (Iz 5 rfl) rfl (aa rfl (Ia rfl (hst.get 1 rfl) rfl) rfl ?_)))
   obtain ⟨x41, hx41⟩ := cL (show 1 < x.exprs.length from bW (a := 1) h37)
   refine Ib (e := 82) (m := 4) hk14 hx41 rfl rfl rfl rfl (fun _ => rfl) (fun p41 vs41 hp41 hl41 hr41 => ?_)
   have hr41raw := hr41; obtain ⟨o41, n41, s41, v41, rfl, hk41⟩ := hr41.shape
   refine aa rfl (cr hst hp41 rfl (by kernel_rfl) rfl) rfl (a9 rfl (It rfl rfl rfl) (fun _ => rfl) (vF hG hrn hregs ht _ _ _ hr41raw (hall x41 (List.mem_of_getElem? hx41)) _ _ hst) (fun σ hst => ?_))
   refine aa rfl (Iz 4 rfl) rfl (bA hst rfl (Io rfl rfl rfl (hst.get 0 rfl) (m := 1) rfl rfl (cells' := [_, _, _, _, _]) rfl) rfl (fun σ hst => ?_))
   refine nS rfl (aa rfl (IC rfl (hst.get 0 rfl) (n := 5) (vs := [_, _, _, _, _]) rfl) rfl (sx hst rfl (Io rfl rfl rfl (hst.get 2 rfl) (m := 5) rfl rfl (cells' := [_, _, _, _, _]) rfl) rfl (fun σ hst => ?_)))
   refine nT (aB ?_)
   exact gW rfl rfl (hst.get 2 rfl) (m := 5) (by kernel_rfl) rfl ⟨by show AV.agg [.int .i64 x.kind, .int .i64 x.loc, .int .i64 x.order, _, _] = AV.agg [.int .i64 x.kind, .int .i64 x.loc, .int .i64 x.order, .int .i64 (gD k aW x 0), .int .i64 (gD k aW x 1)]; rw [dU hx30, dU hx41]; (first | done | rfl), hst.pop.pop.pop⟩
  ·refine aF (ad (aj (ah rfl (aa rfl (IC rfl (hst.get 0 rfl) (n := 5) (vs := [_, _, _, _, _]) rfl) rfl (sx hst rfl (Io rfl rfl rfl (hst.get 2 rfl) (m := 5) rfl rfl (cells' := [_, _, _, _, _]) rfl) rfl (fun σ hst => ?_))))))
   refine nT (aB ?_)
   exact gW rfl rfl (hst.get 2 rfl) (m := 5) (by kernel_rfl) rfl ⟨by show AV.agg [.int .i64 x.kind, .int .i64 x.loc, .int .i64 x.order, _, _] = AV.agg [.int .i64 x.kind, .int .i64 x.loc, .int .i64 x.order, .int .i64 (gD k aW x 0), .int .i64 (gD k aW x 1)]; rw [dU hx30, pw (bn (a := 1) h37)]; (first | done | rfl), hst.pop.pop.pop⟩
 ·refine aF (ad (aj (aj (ah rfl (aa rfl (Iz 5 rfl) rfl (aa rfl (Ia rfl (hst.get 1 rfl) rfl) rfl (aa rfl (H9 hk14 rfl rfl rfl (e := 82) rfl) rfl (vQ 1 rfl (nT (aE rfl (fun h37 => ?_) (fun h37 => ?_)))))))))))
  ·refine ah rfl (vQ 1 rfl (aa rfl (Iz 5 rfl) rfl (aa rfl (Ia rfl (hst.get 1 rfl) rfl) rfl ?_)))
   obtain ⟨x41, hx41⟩ := cL (show 1 < x.exprs.length from bW (a := 1) h37)
   refine Ib (e := 82) (m := 4) hk14 hx41 rfl rfl rfl rfl (fun _ => rfl) (fun p41 vs41 hp41 hl41 hr41 => ?_)
   have hr41raw := hr41; obtain ⟨o41, n41, s41, v41, rfl, hk41⟩ := hr41.shape
   refine aa rfl (cr hst hp41 rfl (by kernel_rfl) rfl) rfl (a9 rfl (It rfl rfl rfl) (fun _ => rfl) (vF hG hrn hregs ht _ _ _ hr41raw (hall x41 (List.mem_of_getElem? hx41)) _ _ hst) (fun σ hst => ?_))
   refine aa rfl (Iz 4 rfl) rfl (bA hst rfl (Io rfl rfl rfl (hst.get 0 rfl) (m := 1) rfl rfl (cells' := [_, _, _, _, _]) rfl) rfl (fun σ hst => ?_))
   refine nS rfl (aa rfl (IC rfl (hst.get 0 rfl) (n := 5) (vs := [_, _, _, _, _]) rfl) rfl (sx hst rfl (Io rfl rfl rfl (hst.get 2 rfl) (m := 5) rfl rfl (cells' := [_, _, _, _, _]) rfl) rfl (fun σ hst => ?_)))
   refine nT (aB ?_)
   exact gW rfl rfl (hst.get 2 rfl) (m := 5) (by kernel_rfl) rfl ⟨by show AV.agg [.int .i64 x.kind, .int .i64 x.loc, .int .i64 x.order, _, _] = AV.agg [.int .i64 x.kind, .int .i64 x.loc, .int .i64 x.order, .int .i64 (gD k aW x 0), .int .i64 (gD k aW x 1)]; rw [pw (bn (a := 0) h26), dU hx41]; (first | done | rfl), hst.pop.pop.pop⟩
  ·refine aF (ad (aj (ah rfl (aa rfl (IC rfl (hst.get 0 rfl) (n := 5) (vs := [_, _, _, _, _]) rfl) rfl (sx hst rfl (Io rfl rfl rfl (hst.get 2 rfl) (m := 5) rfl rfl (cells' := [_, _, _, _, _]) rfl) rfl (fun σ hst => ?_))))))
   refine nT (aB ?_)
   exact gW rfl rfl (hst.get 2 rfl) (m := 5) (by kernel_rfl) rfl ⟨by show AV.agg [.int .i64 x.kind, .int .i64 x.loc, .int .i64 x.order, _, _] = AV.agg [.int .i64 x.kind, .int .i64 x.loc, .int .i64 x.order, .int .i64 (gD k aW x 0), .int .i64 (gD k aW x 1)]; rw [pw (bn (a := 0) h26), pw (bn (a := 1) h37)]; (first | done | rfl), hst.pop.pop.pop⟩
theorem xD {G : Cx} (hG : Plain G) {K : KP} (a : tK) (vv : Int) {σ : av} {L : Own} (hst : St σ K L) : a7 Tryz.prog G 92 [.agg [.int .i64 a.kind, .int .i64 a.loc, .int .i64 a.order, .int .i64 a.a, .int .i64 a.b], .int .i64 vv] σ fun v σ' => v = .tuple [.agg (ints (bZ a vv).ints), .int .i64 (lV a)] ∧ St σ' K L := by
 refine a8 hG Tryz.func92 rfl (t := (PT.leaf.put (some (.agg [.int .i64 a.kind, .int .i64 a.loc, .int .i64 a.order, .int .i64 a.a, .int .i64 a.b])) 0).put (some (.int .i64 vv)) 1) (by rfl) (aj (ah rfl (bp hst rfl (cU rfl rfl) (fun _ => rfl) (fun σ b1 hst => ?_))))
 refine bp hst rfl (Ix (cs := [.int .i64 0, .int .i64 0, .int .i64 0, .int .i64 0, .int .i64 0])) (fun _ => rfl) (fun σ b2 hst => ?_)
 refine vQ 1 rfl (nS rfl (aa rfl (Iz 1 rfl) rfl (aa rfl (Ia rfl (hst.get 1 rfl) rfl) rfl (aa rfl (Iz 2 rfl) rfl (aa rfl (Ia rfl (hst.get 1 rfl) rfl) rfl (vQ 1 rfl (aa rfl (Is (places := [(0, 1), (1, 1), (2, 1), (3, 1), (4, 1)]) (zero := [.int .i64 0, .int .i64 0, .int .i64 0, .int .i64 0, .int .i64 0]) (cs := [_, _, _, _, _]) rfl) rfl (bp hst rfl (Ix (cs := [.int .i64 0, .int .i64 0, .int .i64 0, .int .i64 0, .int .i64 0])) (fun _ => rfl) (fun σ b3 hst => ?_)))))))))
 refine bA hst rfl (Io rfl rfl rfl (hst.get 0 rfl) (m := 5) rfl rfl (cells' := [_, _, _, _, _]) rfl) rfl (fun σ hst => ?_)
 refine nT (aj (aj (ah rfl (aa rfl (Iz 0 rfl) rfl (aa rfl (Ia rfl (hst.get 2 rfl) rfl) rfl (nT (aP (aj (ah rfl (aL rfl (aA rfl rfl rfl) (fun _ => rfl) (fun h17 => ?_) (fun h17 => ?_)))))))))))
 ·refine vQ 1 rfl (nT (aC rfl (ah rfl (aa rfl (Iz 0 rfl) rfl (bA hst rfl (Io rfl rfl rfl (hst.get 0 rfl) (m := 1) rfl rfl (cells' := [_, _, _, _, _]) rfl) rfl (fun σ hst => ?_))))))
  refine af (aK (ad (aj (ah rfl (aa rfl (IC rfl (hst.get 0 rfl) (n := 5) (vs := [_, _, _, _, _]) rfl) rfl (dY hst rfl (Io rfl rfl rfl (hst.get 1 rfl) (m := 5) rfl rfl (cells' := [_, _, _, _, _]) rfl) rfl (fun σ hst => ?_)))))))
  refine vQ 1 rfl (nT (aB ?_))
  exact bm rfl rfl (hst.get 1 rfl) (m := 5) (by kernel_rfl) rfl rfl ⟨by unfold bZ lV; simp only [h17, cond_true, cond_false]; (first | done | rfl), hst.pop.pop.pop⟩
 ·refine vQ 1 rfl (nT (aI rfl (aj (ah rfl (aL rfl (aA rfl rfl rfl) (fun _ => rfl) (fun h20 => ?_) (fun h20 => ?_))))))
  ·refine vQ 1 rfl (nT (aC rfl (aj (ah rfl (vQ 1 rfl (aa rfl (Iz 3 rfl) rfl (aa rfl (Ia rfl (hst.get 2 rfl) rfl) rfl (vQ 1 rfl (nT (aE rfl (fun h24 => ?_) (fun h24 => ?_)))))))))))
   ·refine ah rfl (aa rfl (Iz 4 rfl) rfl (aa rfl (Ia rfl (hst.get 2 rfl) rfl) rfl (aa rfl (Iz 4 rfl) rfl (bA hst rfl (Io rfl rfl rfl (hst.get 0 rfl) (m := 1) rfl rfl (cells' := [_, _, _, _, _]) rfl) rfl (fun σ hst => ?_)))))
    refine af (aK (ad (aj (ah rfl (aa rfl (IC rfl (hst.get 0 rfl) (n := 5) (vs := [_, _, _, _, _]) rfl) rfl (dY hst rfl (Io rfl rfl rfl (hst.get 1 rfl) (m := 5) rfl rfl (cells' := [_, _, _, _, _]) rfl) rfl (fun σ hst => ?_)))))))
    refine vQ 1 rfl (nT (aB ?_))
    exact bm rfl rfl (hst.get 1 rfl) (m := 5) (by kernel_rfl) rfl rfl ⟨by unfold bZ lV; simp only [h17, h20, h24, cond_true, cond_false]; (first | done | rfl), hst.pop.pop.pop⟩
   ·refine ah rfl (aa rfl (Iz 0 rfl) rfl (bA hst rfl (Io rfl rfl rfl (hst.get 0 rfl) (m := 1) rfl rfl (cells' := [_, _, _, _, _]) rfl) rfl (fun σ hst => ?_)))
    refine af (aK (ad (aj (ah rfl (aa rfl (IC rfl (hst.get 0 rfl) (n := 5) (vs := [_, _, _, _, _]) rfl) rfl (dY hst rfl (Io rfl rfl rfl (hst.get 1 rfl) (m := 5) rfl rfl (cells' := [_, _, _, _, _]) rfl) rfl (fun σ hst => ?_)))))))
    refine vQ 1 rfl (nT (aB ?_))
    exact bm rfl rfl (hst.get 1 rfl) (m := 5) (by kernel_rfl) rfl rfl ⟨by unfold bZ lV; simp only [h17, h20, h24, cond_true, cond_false]; (first | done | rfl), hst.pop.pop.pop⟩
  ·refine vQ 1 rfl (nT (aI rfl (aj (ah rfl (aL rfl (aA rfl rfl rfl) (fun _ => rfl) (fun h30 => ?_) (fun h30 => ?_))))))
   ·refine vQ 1 rfl (nT (aC rfl (ah rfl (vQ 1 rfl ?_))))
    refine aa rfl (fH (j := .i64) (k := .u64) (by kernel_rfl) (by kernel_rfl) (by kernel_rfl) rfl) rfl ?_
    refine aa rfl (Iz 3 rfl) rfl (aa rfl (Ia rfl (hst.get 2 rfl) rfl) rfl ?_)
    refine aa rfl (fH (j := .i64) (k := .u64) (by kernel_rfl) (by kernel_rfl) (by kernel_rfl) rfl) rfl ?_
    refine vQ 1 rfl ?_
    refine aa rfl (fH (j := .u64) (k := .i64) (by kernel_rfl) (by kernel_rfl) (by kernel_rfl) rfl) rfl ?_
    refine aa rfl (Iz 4 rfl) rfl (bA hst rfl (Io rfl rfl rfl (hst.get 0 rfl) (m := 1) rfl rfl (cells' := [_, _, _, _, _]) rfl) rfl (fun σ hst => ?_))
    refine af (aK (ad (aj (ah rfl (aa rfl (IC rfl (hst.get 0 rfl) (n := 5) (vs := [_, _, _, _, _]) rfl) rfl (dY hst rfl (Io rfl rfl rfl (hst.get 1 rfl) (m := 5) rfl rfl (cells' := [_, _, _, _, _]) rfl) rfl (fun σ hst => ?_)))))))
    refine vQ 1 rfl (nT (aB ?_))
    exact bm rfl rfl (hst.get 1 rfl) (m := 5) (by kernel_rfl) rfl rfl ⟨by unfold bZ lV; simp only [h17, h20, h30, cond_true, cond_false]; (first | done | rfl), hst.pop.pop.pop⟩
   ·refine vQ 1 rfl (nT (aI rfl (aj (ah rfl (aL rfl (aA rfl rfl rfl) (fun _ => rfl) (fun h40 => ?_) (fun h40 => ?_))))))
    ·refine vQ 1 rfl (nT (aC rfl (ah rfl (aa rfl (Iz 3 rfl) rfl (aa rfl (Ia rfl (hst.get 2 rfl) rfl) rfl (aa rfl (Iz 4 rfl) rfl (bA hst rfl (Io rfl rfl rfl (hst.get 0 rfl) (m := 1) rfl rfl (cells' := [_, _, _, _, _]) rfl) rfl (fun σ hst => ?_))))))))
     refine af (aK (ad (aj (ah rfl (aa rfl (IC rfl (hst.get 0 rfl) (n := 5) (vs := [_, _, _, _, _]) rfl) rfl (dY hst rfl (Io rfl rfl rfl (hst.get 1 rfl) (m := 5) rfl rfl (cells' := [_, _, _, _, _]) rfl) rfl (fun σ hst => ?_)))))))
     refine vQ 1 rfl (nT (aB ?_))
     exact bm rfl rfl (hst.get 1 rfl) (m := 5) (by kernel_rfl) rfl rfl ⟨by unfold bZ lV; simp only [h17, h20, h30, h40, cond_true, cond_false]; (first | done | rfl), hst.pop.pop.pop⟩
    ·refine vQ 1 rfl (nT (aI rfl (aj (ah rfl (aa rfl (Is (places := [(0, 1), (1, 1), (2, 1), (3, 1), (4, 1)]) (zero := [.int .i64 0, .int .i64 0, .int .i64 0, .int .i64 0, .int .i64 0]) (cs := [_, _, _, _, _]) rfl) rfl (dY hst rfl (Io rfl rfl rfl (hst.get 1 rfl) (m := 5) rfl rfl (cells' := [_, _, _, _, _]) rfl) rfl (fun σ hst => ?_)))))))
     refine vQ 1 rfl (nT (aB (aD (au (?_)))))
     exact bm rfl rfl (hst.get 1 rfl) (m := 5) (by kernel_rfl) rfl rfl ⟨by unfold bZ lV; simp only [h17, h20, h30, h40, cond_true, cond_false]; (first | done | rfl), hst.pop.pop.pop⟩
theorem BD {G : Cx} (hG : Plain G) {K : KP} {es : List cS} {v : AV} (h : bC K 5 kQ es v) (hl : es.length ≤ 100000) {σ : av} {L : Own} (hst : St σ K L) : a7 Tryz.prog G 79 [v] σ fun v σ' => ∃ M, eG 1 2 dE (cG es) v M ∧ St σ' K (M ++ L) := by
 refine a8 hG Tryz.func79 rfl (t := PT.leaf.put (some (v)) 0) (by rfl) (aj (ah rfl (vQ 1 rfl (nT (aj (ah rfl ?_))))))
 obtain ⟨LB, hst, hLB⟩ := hst.named
 refine vQ 1 rfl (nT (aj (aj (ah rfl (vQ 1 rfl (aa rfl (H9 h rfl rfl rfl (e := 56) rfl) rfl (vQ 1 rfl (nT (aP (bu [3, 5, 8, 9, 10, 11, 12, 13, 14, 15, 16, 17, 18, 19, 20, 21, 22, 23, 24, 25] (fun j t σ => ∃ (i : Nat) (u : AV) (M : Own), j + i = es.length ∧ eG 1 2 dE (cG (es.take i)) u M ∧ t.get 3 = some (u) ∧ t.get 8 = some (.int .i64 (.ofNat i)) ∧ St σ K (M ++ LB)) (es.length) ⟨0, .aq, [], rfl, .inl ⟨rfl, rfl, rfl⟩, rfl, rfl, hst⟩ ?_))))))))))
 clear hst; intro j3 t σ ar hI; obtain ⟨i, u, M, hj3, hO, hv3, hv8, hst⟩ := hI
 obtain ⟨o3, o5, o8, o9, o10, o11, o12, o13, o14, o15, o16, o17, o18, o19, o20, o21, ar⟩ := ar.HE rfl rfl rfl rfl
 replace ar := ar.rp rfl; obtain ⟨o22, o23, o24, o25, ar⟩ := ar
 obtain rfl := ar.nil; clear ar
 replace hv3 : o3 = some _ := hv3; subst hv3
 replace hv8 : o8 = some _ := hv8; subst hv8
 refine aj (ah rfl (vQ 1 rfl (nT (aj (aE rfl (fun h9 => ?_) (fun h9 => ?_))))))
 ·refine aF (ad (aj (aP (aj (ah rfl ?_)))))
  obtain ⟨x10, hx10, hi10⟩ := dv h9
  refine Ib (e := 56) (m := 5) h hx10 rfl rfl rfl rfl (fun _ => rfl) (fun p10 vs10 hp10 hl10 hr10 => ?_)
  obtain rfl := hr10
  refine aa rfl (cr hst hp10 rfl (by kernel_rfl) rfl) rfl (bp hst rfl (Ix (cs := [.int .i64 0, .int .i64 0, .int .i64 0, .int .i64 0, .int .i64 0])) (fun _ => rfl) (fun σ b1 hst => ?_))
  refine bA hst rfl (Io rfl rfl rfl (hst.get 0 rfl) (m := 5) rfl rfl (cells' := [_, _, _, _, _]) rfl) rfl (fun σ hst => ?_)
  refine nS rfl (aa rfl (Iz 0 rfl) rfl (aa rfl (Ia rfl (hst.get 0 rfl) rfl) rfl (vQ 1 rfl (aL rfl (al rfl) (fun _ => rfl) (fun h15 => ?_) (fun h15 => ?_)))))
  ·refine vQ 4 rfl (nT (aC rfl (ah rfl (vQ 1 rfl (aa rfl (Iz 3 rfl) rfl (aa rfl (Ia rfl (hst.get 0 rfl) rfl) rfl (lD hst rfl (dy (e := 2) (m := 1) (z := [.int .i64 0]) (cs := [_]) (by kernel_rfl) (by kernel_rfl) (by kernel_rfl) (by kernel_rfl) (bL rfl rfl rfl rfl cX)) (fun _ => rfl) (fun σ b2 hst => ?_))))))))
   replace hst := hst.FA
   obtain ⟨σ, u2, M2, happ, hO2, hst⟩ := eF (P := Tryz.prog) (ts := #[22, 22]) (t := 22) (e := 2) (l2 := [x10.read]) hO hst (ee (xs := [x10.read]) (.inr ⟨rfl, rfl⟩) (by simp)) dE.leaf (by simp) (by simp) (by have := qt (es.take i); rw [List.length_take] at this; omega) rfl (by kernel_rfl) (by kernel_rfl) (by kernel_rfl)
   refine aa rfl (dK rfl rfl rfl rfl (by kernel_rfl) happ) rfl (vQ 1 rfl (af (aK (ad (ah rfl (vQ 2 rfl (af (aQ ⟨j3 - 1, by omega, (by (iterate 40 refine bq.put rfl ?_); exact bq.refl _ _), i + 1, u2, M2, by omega, by rw [m9 hx10, show dN x10 = true from by unfold dN; rw [h15]; rfl]; exact hO2, rfl, congrArg (fun z => some (AV.int .i64 z)) (bg (by have := h.bG; omega)), hst⟩))))))))
  ·refine aa rfl (Iz 0 rfl) rfl (aa rfl (Ia rfl (hst.get 0 rfl) rfl) rfl (vQ 2 rfl (nT (aE rfl (fun h19 => ?_) (fun h19 => ?_)))))
   ·refine ah rfl (vQ 1 rfl (aa rfl (Iz 3 rfl) rfl (aa rfl (Ia rfl (hst.get 0 rfl) rfl) rfl (lD hst rfl (dy (e := 2) (m := 1) (z := [.int .i64 0]) (cs := [_]) (by kernel_rfl) (by kernel_rfl) (by kernel_rfl) (by kernel_rfl) (bL rfl rfl rfl rfl cX)) (fun _ => rfl) (fun σ b2 hst => ?_)))))
    replace hst := hst.FA
    obtain ⟨σ, u2, M2, happ, hO2, hst⟩ := eF (P := Tryz.prog) (ts := #[22, 22]) (t := 22) (e := 2) (l2 := [x10.read]) hO hst (ee (xs := [x10.read]) (.inr ⟨rfl, rfl⟩) (by simp)) dE.leaf (by simp) (by simp) (by have := qt (es.take i); rw [List.length_take] at this; omega) rfl (by kernel_rfl) (by kernel_rfl) (by kernel_rfl)
    refine aa rfl (dK rfl rfl rfl rfl (by kernel_rfl) happ) rfl (vQ 1 rfl (af (aK (ad (ah rfl (vQ 2 rfl (af (aQ ⟨j3 - 1, by omega, (by (iterate 40 refine bq.put rfl ?_); exact bq.refl _ _), i + 1, u2, M2, by omega, by rw [m9 hx10, show dN x10 = true from by unfold dN; rw [h15]; exact h19]; exact hO2, rfl, congrArg (fun z => some (AV.int .i64 z)) (bg (by have := h.bG; omega)), hst⟩))))))))
   ·refine aF (aK (ad (ah rfl (vQ 2 rfl (af ?_)))))
    have hst := hst.pop
    refine aQ ⟨j3 - 1, by omega, (by (iterate 34 refine bq.put rfl ?_); exact bq.refl _ _), i + 1, u, M, by omega, by rw [m9 hx10, show dN x10 = false from by unfold dN; rw [h15]; exact h19]; simpa using hO, rfl, congrArg (fun z => some (AV.int .i64 z)) (bg (by have := h.bG; omega)), hst⟩
 ·refine bz (aZ (bc (aU (ad (aj (ah rfl (vQ 2 rfl (nT (aB ?_)))))))))
  subst hLB
  exact ay rfl rfl ⟨M, by rw [List.take_of_length_le (bn h9)] at hO; exact hO, hst⟩
theorem Bb {G : Cx} (hG : Plain G) {K : KP} {l1 l2 : List cS} {v1 v2 : AV} (h1 : bC K 5 kQ l1 v1) (h2 : bC K 5 kQ l2 v2) {σ : av} {L : Own} (hst : St σ K L) : a7 Tryz.prog G 115 [v1, v2] σ fun v σ' => v = .bool (cz l1 l2) ∧ St σ' K L := by
 refine a8 hG Tryz.func115 rfl (t := (PT.leaf.put (some (v1)) 0).put (some (v2)) 1) (by rfl) (aj (ah rfl (vQ 1 rfl (nT (aj (aj (ah rfl (vQ 1 rfl (aa rfl (H9 h1 rfl rfl rfl (e := 56) rfl) rfl (vQ 1 rfl (aa rfl (H9 h2 rfl rfl rfl (e := 56) rfl) rfl (vQ 1 rfl ?_))))))))))))
 refine nT (aE rfl (fun h10 => ?_) (fun h10 => ?_))
 ·refine aj (ah rfl (vQ 1 rfl (nT (aB (au (?_))))))
  exact ay rfl rfl ⟨by first | rw [dP (bM h10)] | rw [eh hx18 hx22 (cS.same.symm.trans (bM h24))] | rw [dk (dc (a6 h10)) (bn h14) hsame], hst⟩
 ·refine aF (ad (aj (aj (ah rfl (vQ 1 rfl (aa rfl (H9 h1 rfl rfl rfl (e := 56) rfl) rfl (vQ 1 rfl (nT (aP ?_)))))))))
  obtain ⟨LL1, hst, hLL1⟩ := hst.named
  refine bu [4, 5, 13, 14, 15, 16, 17, 18, 19, 20, 21, 22, 23, 24, 25] (fun j t σ => ∃ (i : Nat), j + i = l1.length ∧ (∀ k, k < i → l1[k]? = l2[k]?) ∧ t.get 13 = some (.int .i64 (.ofNat i)) ∧ St σ K LL1) (l1.length) ⟨0, rfl, fun k hk => absurd hk (Nat.not_lt_zero _), rfl, hst⟩ ?_
  clear hst; intro j4 t σ ar hI; obtain ⟨i, hj, hsame, hv13, hst⟩ := hI
  subst hLL1
  replace ar := ar.dC rfl rfl; obtain ⟨o4, o5, o13, o14, o15, o16, o17, o18, ar⟩ := ar
  replace ar := ar.rp rfl; obtain ⟨o19, o20, o21, o22, ar⟩ := ar
  replace ar := ar.fD rfl; obtain ⟨o23, ar⟩ := ar
  replace ar := ar.fD rfl; obtain ⟨o24, ar⟩ := ar
  replace ar := ar.fD rfl; obtain ⟨o25, ar⟩ := ar
  obtain rfl := ar.nil; clear ar
  replace hv13 : o13 = some _ := hv13; subst hv13
  refine aj (ah rfl (vQ 1 rfl (nT (aj (aE rfl (fun h14 => ?_) (fun h14 => ?_))))))
  ·refine aF (ad (aj (aP (aj (ah rfl (vQ 2 rfl (nT (aj (aR (l := [(0, []), (1, []), (2, []), (3, []), (4, []), (5, []), (6, []), (7, []), (8, [])]) (by kernel_rfl) (by kernel_rfl) (wQ 2 rfl ?_))))))))))
   obtain ⟨x18, hx18, hi18⟩ := dv h14
   refine Ic (e := 56) (m := 5) h1 hx18 rfl rfl rfl rfl rfl (fun _ => rfl) (fun p18 vs18 hp18 hl18 hr18 => ?_)
   obtain rfl := hr18
   refine an rfl rfl (cr hst hp18 rfl (by kernel_rfl) rfl) rfl (wQ 2 rfl ?_)
   obtain ⟨x22, hx22⟩ := cL (show i < l2.length from by rw [← dc (a6 h10)]; exact hi18)
   refine Ic (e := 56) (m := 5) h2 hx22 rfl rfl rfl rfl rfl (fun _ => rfl) (fun p22 vs22 hp22 hl22 hr22 => ?_)
   obtain rfl := hr22
   refine an rfl rfl (cr hst hp22 rfl (by kernel_rfl) rfl) rfl (an rfl rfl (Ai (n := 5) (ca := [_, _, _, _, _]) (cb := [_, _, _, _, _]) (by kernel_rfl) rfl rfl rfl rfl) rfl (ba (ad (aE rfl (fun h24 => ?_) (fun h24 => ?_)))))
   ·refine aj (ah rfl (vQ 1 rfl (nT (aB (aD (au (bx (aD (au (?_))))))))))
    exact ay rfl rfl ⟨by first | rw [dP (bM h10)] | rw [eh hx18 hx22 (cS.same.symm.trans (bM h24))] | rw [dk (dc (a6 h10)) (bn h14) hsame], hst⟩
   ·refine aF (aK (ad (ah rfl (vQ 2 rfl (af (aQ ⟨j4 - 1, by omega, (by (iterate 29 refine bq.put rfl ?_); exact bq.refl _ _), i + 1, by omega, gV hsame hx18 hx22 (cS.same.symm.trans (a6 h24)), congrArg (fun z => some (AV.int .i64 z)) (bg (by have := h1.bG; omega)), hst⟩))))))
  ·refine bz (aZ (bc (aU (ad (aj (ah rfl (vQ 1 rfl (nT (aB ?_)))))))))
   exact ay rfl rfl ⟨by first | rw [dP (bM h10)] | rw [eh hx18 hx22 (cS.same.symm.trans (bM h24))] | rw [dk (dc (a6 h10)) (bn h14) hsame], hst⟩
theorem Gg {G : Cx} (hG : Plain G) {K : KP} {s : TS} {evv : AV} (hev : bC K 5 kQ s.events evv) {tb et : Nat} {ro : Bool} {c0 c1 c2 c3 c5 c6 c7 : AV} (ht : K tb (.row [c0, c1, c2, c3, evv, c5, c6, c7] et ro)) {l : List cS} {lv : AV} (hl : bC K 5 kQ l lv) {σ : av} {L : Own} (hst : St σ K L) :
  a7 Tryz.prog G 80 [.ptr tb 0, lv] σ fun v σ' => v = .bool (qE s l) ∧ St σ' K L := by
 refine a8 hG Tryz.func80 rfl (t := (PT.leaf.put (some (.ptr tb 0)) 0).put (some (lv)) 1) (by rfl) (aj (ah rfl (vQ 1 rfl (nS rfl (vQ 1 rfl (aa rfl (dH rfl) rfl (aa rfl (Iz 4 rfl) rfl (aa rfl (Ia rfl (hst.dR ht) rfl) rfl (aa rfl (H9 hev rfl rfl rfl (e := 56) rfl) rfl (vQ 1 rfl ?_))))))))))
 refine aa rfl (H9 hl rfl rfl rfl (e := 56) rfl) rfl (vQ 1 rfl (aL rfl (al rfl) (fun _ => rfl) (fun h13 => ?_) (fun h13 => ?_)))
 ·refine vQ 1 rfl (aa rfl (dH rfl) rfl (aa rfl (Iz 4 rfl) rfl (aa rfl (Ia rfl (hst.dR ht) rfl) rfl (vQ 1 rfl (aa rfl (H9 hl rfl rfl rfl (e := 56) rfl) rfl (ql (e := 56) (m := 5) (k := l.length) hev (bn (bM h13)) rfl rfl (by kernel_rfl) (by kernel_rfl) rfl rfl (fun _ => rfl) (fun w20 hw20 => ?_)))))))
  refine vQ 1 rfl (a9 rfl (It rfl rfl rfl) (fun _ => rfl) (Bb hG hw20 hl hst) (fun σ hst => ?_))
  refine vQ 2 rfl (nT (aB ?_))
  exact ay rfl rfl ⟨congrArg AV.bool (by unfold qE; rw [show cd (.ofNat s.events.length) (.ofNat l.length) = false from bM h13]; (first | done | rfl)), hst⟩
 ·refine vQ 11 rfl (nT (aB ?_))
  exact ay rfl rfl ⟨congrArg AV.bool (by unfold qE; rw [show cd (.ofNat s.events.length) (.ofNat l.length) = true from a6 h13]; (first | done | rfl)), hst⟩
theorem E8 {G : Cx} (hG : Plain G) {K : KP} (hgl : kP G K) {k : Nat} {c : XC} {v : AV} (hi : bC K 6 (fR K k) c.ins v)  {σ : av} {L : Own} (hst : St σ K L) :
  a7 Tryz.prog G 77 [.agg [.int .i64 c.aW, v]] σ fun v σ' => v = .int .i64 (jG k c) ∧ St σ' K L := by
 refine a8 hG Tryz.func77 rfl (t := PT.leaf.put (some (.agg [.int .i64 c.aW, v])) 0) (by rfl) (aj (ah rfl (bp hst rfl (cU rfl rfl) (fun _ => rfl) (fun σ b1 hst => ?_))))
 refine vQ 1 rfl (nT (aj (aj (ah rfl (aa rfl (IC rfl (hst.get 0 rfl) (n := 2) (vs := [_, _]) rfl) rfl (a9 rfl (It rfl rfl rfl) (fun _ => rfl) (C8 hG hgl hi hst) (fun σ hst => ?_)))))))
 refine nT (aE rfl (fun h5 => ?_) (fun h5 => ?_))
 ·refine aj (ah rfl (vQ 1 rfl (nT (aB (au (?_))))))
  exact ay rfl rfl ⟨congrArg (AV.int .i64) (by unfold jG; rw [h5]; rfl), hst.pop⟩
 ·refine aF (ad (aj (aj (ah rfl (aa rfl (IC rfl (hst.get 0 rfl) (n := 2) (vs := [_, _]) rfl) rfl (a9 rfl (It rfl rfl rfl) (fun _ => rfl) (qe hG hgl hi hst) (fun σ hst => ?_)))))))
  refine vQ 1 rfl (nS rfl (vQ 2 rfl (nT (aE rfl (fun h9 => ?_) (fun h9 => ?_)))))
  ·refine aj (ah rfl (vQ 2 rfl (nT (aB (au (?_))))))
   exact ay rfl rfl ⟨congrArg (AV.int .i64) (by unfold jG; rw [h5, show bf (bk (cY k c) 0) = true from h9]; rfl), hst.pop⟩
  ·refine aF (ad (aj (ah rfl (vQ 1 rfl (nT (aB ?_))))))
   exact ay rfl rfl ⟨congrArg (AV.int .i64) (by unfold jG; rw [h5, show bf (bk (cY k c) 0) = false from h9]; rfl), hst.pop⟩
theorem Ep {G : Cx} (hG : Plain G) {K : KP} {k : Nat} {c : XC} (hc : eY k c) {od : List Nat} (ho : eR c = some od) (hR : ia (dw c) c.ins.length od) {cv : AV} (hi : bC K 6 (fR K k) c.ins cv) {σ : av} {L : Own} (hst : St σ K L) :
  a7 Tryz.prog G 113 [.agg [.int .i64 c.aW, cv]] σ fun v σ' => ∃ tb rb ev Me, v = .ptr tb 0 ∧ eG 5 56 kQ (gk k c).events ev Me ∧ St σ' K ((tb, .row (Ce c cv (gk k c) rb ev) 131 false) :: (rb, .row ((gk k c).aW.map gZ) 2 false) :: (Me ++ L)) := by
 have hr0 : c.aW = .ofNat c.aW.toNat := by have := hc.AH; show c.aW = ((c.aW.toNat : Nat) : Int); omega
 have hr16 : c.aW.toNat ≤ 16 := by have := hc.v7; omega
 have hol := qm hc ho
 have hfu : iw c = od.length := by unfold iw; rw [ho]; rfl
 have hlen := hc.len
 have hB0 : gk k c = tP k c od.length (me c) := by unfold gk; rw [hfu]; rfl
 refine a8 hG Tryz.func113 rfl (t := PT.leaf.put (some (.agg [.int .i64 c.aW, cv])) 0) (by rfl) (aj (ah rfl (bp hst rfl (cU rfl rfl) (fun _ => rfl) (fun σ b1 hst => ?_))))
 refine vQ 1 rfl (nT (aj (aR (l := [(0, []), (1, []), (2, []), (3, []), (4, []), (5, []), (6, [])]) (by kernel_rfl) (by kernel_rfl) (an rfl rfl (IC rfl (hst.get 0 rfl) (n := 2) (vs := [_, _]) rfl) rfl (an rfl rfl (Iz 0 rfl) rfl (an rfl rfl (Ia rfl (hst.get 0 rfl) rfl) rfl (sD hst rfl rfl (gm (e := 2) (w := 8) (z := [gZ 0]) (by kernel_rfl) (by kernel_rfl) (by kernel_rfl) (by kernel_rfl) (show _ = some (AV.int .i64 (.ofNat c.aW.toNat)) from congrArg (fun z => some (AV.int .i64 z)) hr0) (show _ = some (AV.int .i64 (.ofNat c.aW.toNat)) from congrArg (fun z => some (AV.int .i64 z)) hr0) (by omega) (by omega)) (fun _ => rfl) (fun σ b2 hst => ?_))))))))
 rw [gQ (f := gZ)] at hst
 refine an rfl rfl (Is (places := [(0, 2), (2, 1), (3, 1), (4, 1), (5, 1), (6, 1), (7, 1)]) (zero := [.int .i64 0, .aq, .int .i64 0, .aq, .aq, .int .i64 0, .int .i64 0, .bool false]) (cs := [_, _, _, _, _, _, _, _]) rfl) rfl (ue hst rfl rfl (cU rfl rfl) (fun _ => rfl) (fun σ b3 hst => ?_))
 refine wQ 1 rfl ?_
 replace hst : St σ K ((b3, .row (Ce c cv (me c) b2 .aq) 131 false) :: (b2, .row ((me c).aW.map gZ) 2 false) :: ([] ++ (b1, .row [.int .i64 c.aW, cv] 33 false) :: L)) := by show St σ K ((b3, .row [_, _, _, .slice b2 0 (List.replicate c.aW.toNat (0 : Int)).length (.known (List.replicate c.aW.toNat (0 : Int)).length), _, _, _, _] 131 false) :: _); rw [List.length_replicate]; exact hst
 refine ba (ad (aj (aP ?_)))
 refine bu [10, 11] (fun j t σ => ∃ (s : TS) (ev : AV) (Me : Own), vh c od s ∧ s.events.length + j ≤ od.length ∧ (∃ q, od[q]? = some s.at_ ∧ q < j) ∧ tP k c od.length (me c) = tP k c j s ∧ eG 5 56 kQ s.events ev Me ∧ St σ K ((b3, .row (Ce c cv s b2 ev) 131 false) :: (b2, .row (s.aW.map gZ) 2 false) :: (Me ++ (b1, .row [.int .i64 c.aW, cv] 33 false) :: L))) (od.length) ⟨me c, .aq, [], xR hR, by show 0 + _ ≤ _; omega, (List.getElem?_of_mem hR.zero).imp fun q hq => ⟨hq, (List.getElem?_eq_some_iff.1 hq).1⟩, rfl, .inl ⟨rfl, rfl, rfl⟩, hst⟩ ?_
 clear hst; intro j2 t σ ar hI; obtain ⟨s, ev, Me, htn, hB, hq2, he, hO, hst⟩ := hI
 replace ar := ar.fD rfl; obtain ⟨o10, ar⟩ := ar
 replace ar := ar.fD rfl; obtain ⟨o11, ar⟩ := ar
 obtain rfl := ar.nil; clear ar
 refine aj (aj (ah rfl (vQ 1 rfl ?_)))
 obtain ⟨q, hq, hqj⟩ := hq2
 refine cJ rfl (It rfl rfl rfl) (fun _ => rfl) (CK hG hc hi ⟨htn.lt hR, htn.aW, by omega⟩ (by omega) hO hst) ?_
 rintro _ σ ⟨ev2, Me2, rfl, hO2, hst⟩
 refine nT (aE rfl (fun h11 => ?_) (fun h11 => ?_))
 ·refine aF (ad (aP (aF (aK ?_))))
  obtain ⟨xs, hxs⟩ := cL (htn.lt hR)
  obtain ⟨q2, hq2, hqs2⟩ := ui hR hxs hq h11
  have hel := (nB (k := k) (c := c) (s := s)).2
  refine aQ ⟨j2 - 1, by omega, bq.put rfl (bq.put rfl (bq.put rfl (bq.put rfl (bq.refl _ _)))), _, ev2, Me2, htn.step hR, by omega, ⟨q2, hqs2, by omega⟩, he.trans (AR (by omega) h11), hO2, hst⟩
 ·have hfin : gk k c = (cm k c s).1 := by rw [hB0, he]; exact CM (by omega) h11
  refine bz (aZ (bc (aU (ad (aj (ah rfl (vQ 2 rfl (nT (aB ?_)))))))))
  exact ay rfl rfl ⟨b3, b2, ev2, Me2, rfl, by rw [hfin]; exact hO2, by rw [hfin]; exact hst.sub (.cons_cons _ (.cons_cons _ (ig (.cons _ (.refl _)))))⟩
theorem D6 {G : Cx} (hG : Plain G) {K : KP} {k : Nat} {c : XC} (hc : eY k c) {od : List Nat} (ho : eR c = some od) (hR : ia (dw c) c.ins.length od) {cv : AV} (hi : bC K 6 (fR K k) c.ins cv) {s0 : TS} (hin : vh c od s0) (hask : jL c s0) (hs : s0.asks = true) (hev : s0.events.length ≤ 880000) (had : s0.asked ≤ 1000000) (vv : Int) {b1 b2 : Nat} {ev0 : AV} {Me0 : Own} (hO : eG 5 56 kQ s0.events ev0 Me0) {σ : av} {L : Own}
  (hst : St σ K ((b1, .row (Ce c cv s0 b2 ev0) 131 false) :: (b2, .row (s0.aW.map gZ) 2 false) :: (Me0 ++ L))) :
  a7 Tryz.prog G 114 [.ptr b1 0, .int .i64 vv] σ fun v σ' => ∃ ev' Me', eG 5 56 kQ (di k c s0 vv).events ev' Me' ∧ St σ' K ((b1, .row (Ce c cv (di k c s0 vv) b2 ev') 131 false) :: (b2, .row ((di k c s0 vv).aW.map gZ) 2 false) :: (Me' ++ L)) := by
 have hol := qm hc ho
 have hfu : iw c = od.length := by unfold iw; rw [ho]; rfl
 have hlen := hc.len
 have hat := hin.lt hR
 obtain ⟨x, hx, hk4⟩ := hask hs
 have hrx := hc.right x (List.mem_of_getElem? hx)
 have hrn : c.aW ≤ s0.aW.length := by have := hin.aW; have := hc.AH; omega
 have hr16 : s0.aW.length ≤ 1000 := by have := hin.aW; have := hc.v7; omega
 have hkn : ∃ kn : Nat, x.kind = .ofNat kn ∧ (kn = 2 ∨ kn = 4 ∨ kn = 5 ∨ kn = 6) := by
  rcases hk4 with e | e | e | e
  ·exact ⟨2, e, by omega⟩
  ·exact ⟨4, e, by omega⟩
  ·exact ⟨5, e, by omega⟩
  ·exact ⟨6, e, by omega⟩
 obtain ⟨kn, hkn, hk5⟩ := hkn
 obtain ⟨rg, hrg, hrgn⟩ := D1 hrx hkn (by omega)
 obtain ⟨A, hA⟩ : ∃ A, A = EG k x s0.aW := ⟨_, rfl⟩
 obtain ⟨E, hE⟩ : ∃ E, E = bZ A vv := ⟨_, rfl⟩
 have hAX : nb k c s0 = A := by unfold nb; rw [hx, hA]
 have hS1 : fe k c s0 vv = { s0 with events := s0.events ++ [E], aW := s0.aW.set rg vv, asked := s0.asked + 1, at_ := s0.at_ + 1, asks := false } := by
  unfold fe Fy; rw [hx]; dsimp only; rw [hAX, ← hE, show x.tN.toNat = rg from by rw [hrg]; rfl]
 have hB0 : di k c s0 vv = tP k c od.length (fe k c s0 vv) := by unfold di; rw [hfu]
 have hin1 := qB hc hR hin hask hs vv
 refine a8 hG Tryz.func114 rfl (t := (PT.leaf.put (some (.ptr b1 0)) 0).put (some (.int .i64 vv)) 1) (by rfl) (aj (ah rfl (vQ 1 rfl ?_)))
 have hq := hst.keeps (M := [_, _])
 refine a9 rfl (It rfl rfl rfl) (fun _ => rfl) (jb (M := [_, _]) hst (Fs hG (oC (KP.cQ _ _) hi) hrn hx hrx (ee (xs := s0.aW) (KP.eQ 1 rfl) hr16) (KP.eQ 0 rfl) hq)) (fun σ hst => ?_)
 clear hq; rw [← hA]
 refine vQ 1 rfl (a9 rfl (It rfl rfl rfl) (fun _ => rfl) (xD hG A vv hst) (fun σ hst => ?_))
 rw [← hE]
 refine vQ 3 rfl (bp hst rfl (Ix (cs := [.int .i64 0, .int .i64 0, .int .i64 0, .int .i64 0, .int .i64 0])) (fun _ => rfl) (fun σ b3 hst => ?_))
 refine bA hst rfl (Io rfl rfl rfl (hst.get 0 rfl) (m := 5) rfl rfl (cells' := [_, _, _, _, _]) rfl) rfl (fun σ hst => ?_)
 refine vQ 1 rfl (nT (aj (aR (l := [(0, []), (1, []), (2, []), (3, []), (4, []), (5, []), (6, []), (7, []), (8, []), (9, []), (10, [])]) (by kernel_rfl) (by kernel_rfl) (wQ 2 rfl (an rfl rfl (dH rfl) rfl (an rfl rfl (Iz 4 rfl) rfl (an rfl rfl (Ia rfl (hst.get 1 rfl) rfl) rfl (an rfl rfl (IC rfl (hst.get 0 rfl) (n := 5) (vs := [_, _, _, _, _]) rfl) rfl (sD hst rfl rfl (dy (e := 56) (m := 5) (z := [.int .i64 0, .int .i64 0, .int .i64 0, .int .i64 0, .int .i64 0]) (cs := [_, _, _, _, _]) (by kernel_rfl) (by kernel_rfl) (by kernel_rfl) (by kernel_rfl) (bL rfl rfl rfl rfl cX)) (fun _ => rfl) (fun σ b4 hst => ?_))))))))))
 replace hst := hst.zr (A := [_, _, _])
 obtain ⟨σ, ev2, Me2, happ, hO2, hst⟩ := eF (P := Tryz.prog) (ts := #[57, 57]) (t := 57) (e := 56) hO hst (uA (x := E) (.inr ⟨rfl, rfl⟩)) kQ.leaf (by simp) (by simp) (by omega) rfl (by kernel_rfl) (by kernel_rfl) (by kernel_rfl)
 replace hst := hst.front (A := Me2) (M := [_, _, _])
 refine eU rfl rfl (dK rfl rfl rfl rfl (by kernel_rfl) happ) rfl ?_
 refine ⟨aY, ?_⟩
 refine an rfl rfl (dH rfl) rfl (an rfl rfl (Iz 4 rfl) rfl (zR hst rfl rfl (aJ rfl rfl hO2.leaf.1 (hst.get 1 rfl) (m := 1) (by kernel_rfl) rfl (lb rfl) (ae hO2.leaf.2 az) (cells' := [_, _, _, _, _, _, _, _]) rfl) rfl (fun σ hst => ?_)))
 refine ⟨aY, ?_⟩
 refine ba (ad (aj (aR (l := [(0, []), (1, []), (2, []), (3, []), (4, []), (5, []), (6, []), (7, []), (8, []), (9, []), (10, []), (11, []), (12, []), (13, []), (14, []), (15, []), (16, []), (17, []), (18, [])]) (by kernel_rfl) (by kernel_rfl) ?_)))
 replace hst := hst.pop
 refine wQ 1 rfl (an rfl rfl (dH rfl) rfl (an rfl rfl (Iz 3 rfl) rfl (an rfl rfl (Ia rfl (hst.get 0 rfl) rfl) rfl (wQ 1 rfl (an rfl rfl (dH rfl) rfl (an rfl rfl (Iz 0 rfl) rfl (an rfl rfl (Iz 1 rfl) rfl (an rfl rfl (Ia rfl (hst.get 0 rfl) rfl) rfl (wQ 1 rfl (an rfl rfl (dH rfl) rfl (an rfl rfl (Iz 2 rfl) rfl (an rfl rfl (Ia rfl (hst.get 0 rfl) rfl) rfl (Ic (e := 79) (m := 6) hi hx rfl rfl rfl rfl rfl (fun _ => rfl) (fun p36 vs36 hp36 hl36 hr36 => ?_))))))))))))))
 have hr36raw := hr36; have hr36' := hr36; obtain ⟨v36, rfl, hk36⟩ := hr36'
 refine jq hp36 rfl rfl rfl rfl (k := 1) (by kernel_rfl) (lb rfl) (fun _ => rfl) (fun p37 hp37 => ?_)
 refine an rfl rfl (Ih hst hp37 rfl rfl) rfl (wQ 1 rfl (an rfl rfl (ej (e := 2) (m := 1) (by kernel_rfl) (by kernel_rfl) rfl (show _ = some (AV.int .i64 (.ofNat rg)) from congrArg (fun z => some (AV.int .i64 z)) hrg) (by omega)) rfl (l8 hst (.there .here) rfl rfl (aJ rfl rfl rfl (hst.get 1 rfl) (m := 1) (by kernel_rfl) rfl (by rw [List.length_map]; omega) rfl (cells' := ((s0.aW).set rg vv).map (gZ)) (fb (f := gZ) (v := vv) (by omega) (by first | omega | rfl))) rfl (fun σ hst => ?_))))
 refine ⟨aY, ?_⟩
 refine ba (ad (aj (ah rfl (vQ 1 rfl (aa rfl (dH rfl) rfl (aa rfl (Iz 5 rfl) rfl (aa rfl (Ia rfl (hst.get 0 rfl) rfl) rfl (aa rfl (aA rfl rfl (show _ = some (AV.int .i64 (.ofNat (s0.asked + 1))) from congrArg (fun z => some (AV.int .i64 z)) (bg (by omega)))) rfl (aa rfl (dH rfl) rfl (aa rfl (Iz 5 rfl) rfl (bA hst rfl (Io rfl rfl rfl (hst.get 0 rfl) (m := 1) rfl rfl (cells' := [_, _, _, _, _, _, _, _]) rfl) rfl (fun σ hst => ?_))))))))))))
 refine nS rfl (vQ 1 rfl (aa rfl (dH rfl) rfl (aa rfl (Iz 2 rfl) rfl (aa rfl (Ia rfl (hst.get 0 rfl) rfl) rfl (aa rfl (aA rfl rfl (show _ = some (AV.int .i64 (.ofNat (s0.at_ + 1))) from congrArg (fun z => some (AV.int .i64 z)) (bg (by omega)))) rfl (aa rfl (dH rfl) rfl (aa rfl (Iz 2 rfl) rfl (bA hst rfl (Io rfl rfl rfl (hst.get 0 rfl) (m := 1) rfl rfl (cells' := [_, _, _, _, _, _, _, _]) rfl) rfl (fun σ hst => ?_)))))))))
 refine nS rfl (vQ 1 rfl (aa rfl (dH rfl) rfl (aa rfl (Iz 7 rfl) rfl (bA hst rfl (Io rfl rfl rfl (hst.get 0 rfl) (m := 1) rfl rfl (cells' := [_, _, _, _, _, _, _, _]) rfl) rfl (fun σ hst => ?_)))))
 replace hst : St σ K ((b1, .row (Ce c cv (fe k c s0 vv) b2 ev2) 131 false) :: (b2, .row ((fe k c s0 vv).aW.map gZ) 2 false) :: (Me2 ++ L)) := by rw [hS1]; show St σ K ((b1, .row [_, _, _, .slice b2 0 (s0.aW.set rg vv).length (.known (s0.aW.set rg vv).length), _, _, _, _] 131 false) :: _); rw [List.length_set]; exact hst
 refine nT (aP ?_)
 refine bu [58, 59] (fun j t σ => ∃ (s : TS) (ev : AV) (Me : Own), vh c od s ∧ s.events.length + j ≤ s0.events.length + 1 + od.length ∧ (∃ q, od[q]? = some s.at_ ∧ q < j) ∧ tP k c od.length (fe k c s0 vv) = tP k c j s ∧ eG 5 56 kQ s.events ev Me ∧ St σ K ((b1, .row (Ce c cv s b2 ev) 131 false) :: (b2, .row (s.aW.map gZ) 2 false) :: (Me ++ L))) (od.length) ⟨fe k c s0 vv, ev2, Me2, hin1, by rw [hS1]; show (s0.events ++ [E]).length + _ ≤ _; rw [List.length_append]; show s0.events.length + 1 + _ ≤ _; omega, (List.getElem?_of_mem hin1.at_).imp fun q hq => ⟨hq, (List.getElem?_eq_some_iff.1 hq).1⟩, rfl, by rw [hS1]; exact hO2, hst⟩ ?_
 clear hst; intro j6 t σ ar hI; obtain ⟨s, ev, Me, htn, hB, hq6, he, hO, hst⟩ := hI
 replace ar := ar.fD rfl; obtain ⟨o58, ar⟩ := ar
 replace ar := ar.fD rfl; obtain ⟨o59, ar⟩ := ar
 obtain rfl := ar.nil; clear ar
 refine aj (aj (ah rfl (vQ 1 rfl ?_)))
 obtain ⟨q, hq, hqj⟩ := hq6
 refine cJ rfl (It rfl rfl rfl) (fun _ => rfl) (CK hG hc hi ⟨htn.lt hR, htn.aW, by omega⟩ (by omega) hO hst) ?_
 rintro _ σ ⟨ev2, Me2, rfl, hO2, hst⟩
 refine nT (aE rfl (fun h59 => ?_) (fun h59 => ?_))
 ·refine aF (ad (aP (aF (aK ?_))))
  obtain ⟨xs, hxs⟩ := cL (htn.lt hR)
  obtain ⟨q2, hq2, hqs2⟩ := ui hR hxs hq h59
  have hel := (nB (k := k) (c := c) (s := s)).2
  refine aQ ⟨j6 - 1, by omega, bq.put rfl (bq.put rfl (bq.put rfl (bq.put rfl (bq.refl _ _)))), _, ev2, Me2, htn.step hR, by omega, ⟨q2, hqs2, by omega⟩, he.trans (AR (by omega) h59), hO2, hst⟩
 ·have hfin : di k c s0 vv = (cm k c s).1 := by rw [hB0, he]; exact CM (by omega) h59
  refine bz (aZ (bc (aU ?_)))
  exact xV rfl ⟨ev2, Me2, by rw [hfin]; exact hO2, by rw [hfin]; exact hst⟩
theorem Hm {G : Cx} (hG : Plain G) {K : KP} {k : Nat} {c : XC} (hc : eY k c) {od : List Nat} (ho : eR c = some od) (hR : ia (dw c) c.ins.length od) {cv : AV} (hi : bC K 6 (fR K k) c.ins cv) {A : List Int} {va : AV} (hA : bC K 1 dE A va) (hAl : A.length ≤ 50) {σ : av} {L : Own} (hst : St σ K L) :
  a7 Tryz.prog G 78 [.agg [.int .i64 c.aW, cv], va] σ fun v σ' => ∃ tb rb ev Me, v = .ptr tb 0 ∧ eG 5 56 kQ (gd k c A).events ev Me ∧ St σ' K ((tb, .row (Ce c cv (gd k c A) rb ev) 131 false) :: (rb, .row ((gd k c A).aW.map gZ) 2 false) :: (Me ++ L)) ∧ vh c od (gd k c A) := by
 have hol := qm hc ho
 have hb := Bg (k := k) ho hR
 refine a8 hG Tryz.func78 rfl (t := (PT.leaf.put (some (.agg [.int .i64 c.aW, cv])) 0).put (some (va)) 1) (by rfl) (aj (ah rfl (bp hst rfl (cU rfl rfl) (fun _ => rfl) (fun σ b1 hst => ?_))))
 refine vQ 1 rfl (nS rfl (aa rfl (IC rfl (hst.get 0 rfl) (n := 2) (vs := [_, _]) rfl) rfl (cJ rfl (It rfl rfl rfl) (fun _ => rfl) (Ep hG hc ho hR hi hst) ?_)))
 rintro _ σ ⟨b2, b3, ev0, Me0, rfl, hO0, hst⟩
 refine vQ 1 rfl (nT (aj (aj (ah rfl (vQ 1 rfl (aa rfl (H9 hA rfl rfl rfl (e := 2) rfl) rfl (vQ 1 rfl (nT (aP (bu [7, 12, 13, 14, 15, 16, 17, 18, 19, 20, 21, 22, 23, 24] (fun j t σ => ∃ (i : Nat) (s : TS) (ev : AV) (Me : Own), j + i = A.length ∧ vh c od s ∧ jL c s ∧ s.events.length ≤ (i + 1) * 16002 ∧ s.asked ≤ i ∧ jo k c A (gk k c) = jo k c (A.drop i) s ∧ eG 5 56 kQ s.events ev Me ∧ t.get 12 = some (.int .i64 (.ofNat i)) ∧ St σ K ((b2, .row (Ce c cv s b3 ev) 131 false) :: (b3, .row (s.aW.map gZ) 2 false) :: (Me ++ (b1, .row [.int .i64 c.aW, cv] 33 false) :: L))) (A.length) ⟨0, gk k c, ev0, Me0, rfl, hb.1, rO hc, by omega, by have := (lG k c (iw c) (me c)).2; exact Nat.le_of_eq this, rfl, hO0, rfl, hst⟩ ?_))))))))))
 clear hst; intro j3 t σ ar hI; obtain ⟨i, s, ev, Me, hj3, htn, hak, hel, had, he, hO, hv12, hst⟩ := hI
 replace ar := ar.dC rfl rfl; obtain ⟨o7, o12, o13, o14, o15, o16, o17, o18, ar⟩ := ar
 replace ar := ar.rp rfl; obtain ⟨o19, o20, o21, o22, ar⟩ := ar
 replace ar := ar.fD rfl; obtain ⟨o23, ar⟩ := ar
 replace ar := ar.fD rfl; obtain ⟨o24, ar⟩ := ar
 obtain rfl := ar.nil; clear ar
 replace hv12 : o12 = some _ := hv12; subst hv12
 refine aj (ah rfl (vQ 1 rfl (nT (aj (aE rfl (fun h13 => ?_) (fun h13 => ?_))))))
 ·refine aF (ad (aj (aP (aj (ah rfl ?_)))))
  obtain ⟨x14, hx14, hi14⟩ := dv h13
  refine Ib (e := 2) (m := 1) hA hx14 rfl rfl rfl rfl (fun _ => rfl) (fun p14 vs14 hp14 hl14 hr14 => ?_)
  obtain rfl := hr14
  refine aa rfl (Ih hst hp14 rfl rfl) rfl (vQ 1 rfl (nT (aj (aj (ah rfl (vQ 1 rfl (aa rfl (dH rfl) rfl (aa rfl (Iz 7 rfl) rfl (aa rfl (Ia rfl (hst.get 0 rfl) rfl) rfl (aL rfl (dI rfl) (fun _ => rfl) (fun h20 => ?_) (fun h20 => ?_)))))))))))
  ·refine nT (aC rfl (bz (aZ (wo rfl (aZ (bc (aU (ad (aj (ah rfl (vQ 2 rfl (af ?_))))))))))))
   refine ad (aB ?_)
   have hfin : gd k c A = s := by unfold gd; rw [he]; exact EF hx14 (mn h20)
   exact ay rfl rfl ⟨b2, b3, ev, Me, rfl, by rw [hfin]; exact hO, by rw [hfin]; exact hst.sub (.cons_cons _ (.cons_cons _ (ig (.cons _ (.refl _))))), by rw [hfin]; exact htn⟩
  ·have h20x := h20
   refine nT (aI rfl (aF (ad (ah rfl (vQ 2 rfl (cJ rfl (It rfl rfl rfl) (fun _ => rfl) (D6 hG hc ho hR hi htn hak (fY h20x) (by have := bW h13; have : (i + 1) * 16002 ≤ 50 * 16002 := Nat.mul_le_mul_right _ (by omega); omega) (by omega) x14 hO hst) ?_))))))
   rintro _ σ ⟨ev2, Me2, hO2, hst⟩
   refine af (aK (ad (ah rfl (vQ 2 rfl (af ?_)))))
   obtain ⟨k1, k2, k3⟩ := y9 hc ho hR htn hak (fY h20x) x14
   refine aQ ⟨j3 - 1, by omega, (by (iterate 28 refine bq.put rfl ?_); exact bq.refl _ _), i + 1, _, ev2, Me2, by omega, k1, qI hc _ _, by rw [Nat.add_mul]; omega, by rw [k3]; omega, he.trans (Cn hx14 (fY h20x)), hO2, congrArg (fun z => some (AV.int .i64 z)) (bg (by have := hA.bG; omega)), hst⟩
 ·refine bz (aZ (bc (aU (ad (aj (ah rfl (vQ 2 rfl (nT (aB ?_)))))))))
  have hfin : gd k c A = s := by unfold gd; rw [he]; exact Dc (bn h13)
  exact ay rfl rfl ⟨b2, b3, ev, Me, rfl, by rw [hfin]; exact hO, by rw [hfin]; exact hst.sub (.cons_cons _ (.cons_cons _ (ig (.cons _ (.refl _))))), by rw [hfin]; exact htn⟩
theorem DP {G : Cx} (hG : Plain G) {K : KP} (hgl : kP G K) {k : Nat} {c : XC} {cv : AV} (hi : bC K 6 (fR K k) c.ins cv) {l : List cS} {lv : AV} (hl : bC K 5 kQ l lv) (hll : l.length ≤ 40) {σ : av} {L : Own} (hst : St σ K L) :
  a7 Tryz.prog G 46 [.agg [.int .i64 c.aW, cv], lv] σ fun v σ' => v = .tuple [.agg (BL (cC k c l).1), .int .i64 (cC k c l).2] ∧ St σ' K L := by
 refine a8 hG Tryz.func46 rfl (t := (PT.leaf.put (some (.agg [.int .i64 c.aW, cv])) 0).put (some (lv)) 1) (by rfl) (aj (ah rfl (bp hst rfl (cU rfl rfl) (fun _ => rfl) (fun σ b1 hst => ?_))))
 refine bp hst rfl (Ix (cs := [.int .i64 0, .int .i64 0, .int .i64 0, .int .i64 0, .int .i64 0, .int .i64 0, .int .i64 0, .int .i64 0, .int .i64 0, .int .i64 0, .int .i64 0])) (fun _ => rfl) (fun σ b2 hst => ?_)
 refine vQ 1 rfl (nT (aj (aj (ah rfl (aa rfl (IC rfl (hst.get 1 rfl) (n := 2) (vs := [_, _]) rfl) rfl (a9 rfl (It rfl rfl rfl) (fun _ => rfl) (E8 hG hgl hi hst) (fun σ hst => ?_)))))))
 refine vQ 1 rfl (nS rfl (vQ 2 rfl (nT (aE rfl (fun h11 => ?_) (fun h11 => ?_)))))
 ·refine aj (ah rfl (aa rfl (Is (places := [(0, 5), (5, 5), (10, 1)]) (zero := [.int .i64 0, .int .i64 0, .int .i64 0, .int .i64 0, .int .i64 0, .int .i64 0, .int .i64 0, .int .i64 0, .int .i64 0, .int .i64 0, .int .i64 0]) (cs := [_, _, _, _, _, _, _, _, _, _, _]) rfl) rfl (vQ 1 rfl (bA hst rfl (Io rfl rfl rfl (hst.get 0 rfl) (m := 11) rfl rfl (cells' := [_, _, _, _, _, _, _, _, _, _, _]) rfl) rfl (fun σ hst => ?_)))))
  refine vQ 1 rfl (nT (aB (au (?_))))
  exact bm rfl rfl (hst.get 0 rfl) (m := 11) (by kernel_rfl) rfl rfl ⟨by rw [show cC k c l = (vK, jG k c) from by unfold cC; rw [show bf (bk (jG k c) 0) = true from h11]; rfl]; rfl, hst.pop.pop⟩
 ·refine aF (ad (aj (aR (l := [(0, []), (1, []), (2, [0]), (3, []), (4, [])]) (by kernel_rfl) (by kernel_rfl) (an rfl rfl (IC rfl (hst.get 1 rfl) (n := 2) (vs := [_, _]) rfl) rfl (wQ 1 rfl ?_)))))
  have hfx : iN k c = true := by rw [← iy]; exact a6 h11
  obtain ⟨hc, od, ho, hR⟩ := rG hfx
  refine gR rfl rfl (It rfl rfl rfl) (fun _ => rfl) (BD hG hl (by omega) hst) ?_
  rintro u16 σ ⟨M16, hM16, hst⟩
  refine ⟨(bP (cM rfl rfl rfl rfl rfl (IC rfl (hst.bl.pop.get 0 rfl) (n := 2) (vs := [_, _]) rfl) (mT (dg (fJ _ _) (dg hi.ld mQ)))) aY), ?_⟩
  have hq := hst.keeps
  have hr := Hm hG hc ho hR (oC (KP.cQ K M16) hi) (hM16.kx (K := K.nM M16) fun y hy => .inr hy) (by have := qt l; omega) hq
  refine gR rfl rfl (It rfl rfl rfl) (fun _ => rfl) hr ?_
  clear hq hr; rintro _ σ ⟨tb, rb, ev, Me, rfl, hO, hst, htn⟩
  replace hst := hst.weaken (KP.cQ K M16)
  obtain ⟨s, hsd⟩ : ∃ s, s = gd k c (cG l) := ⟨_, rfl⟩; rw [← hsd] at hO hst htn
  obtain ⟨K1, hle, hmem, hst⟩ := St.ft (M := (tb, .row (Ce c cv s rb ev) 131 false) :: (rb, .row (s.aW.map gZ) 2 false) :: Me) hst
  have ht := hmem _ (.head _); have hrr := hmem _ (.tail _ (.head _)); have hev := hO.kx (K := K1) fun y hy => hmem _ (.tail _ (.tail _ hy)); clear hmem; dsimp only at ht hrr
  have hr16 : s.aW.length ≤ 1000 := by have := htn.aW; have := hc.v7; omega
  have hregs := ee (xs := s.aW) hrr hr16
  have hl1 := hl.mono hle fun _ _ h => h
  have hN : cC k c l = kb k c s l := by unfold cC; rw [iy, hfx, hsd]; rfl
  refine ⟨aY, ?_⟩
  refine wQ 1 rfl (ba (ad (aj (aP (aj (ah rfl (vQ 2 rfl (a9 rfl (It rfl rfl rfl) (fun _ => rfl) (Gg hG hev ht hl1 hst) (fun σ hst => ?_)))))))))
  refine aL rfl (dI rfl) (fun _ => rfl) (fun h22 => ?_) (fun h22 => ?_)
  ·refine vQ 1 rfl (nT (aC rfl (aj (ah rfl (aa rfl (Is (places := [(0, 5), (5, 5), (10, 1)]) (zero := [.int .i64 0, .int .i64 0, .int .i64 0, .int .i64 0, .int .i64 0, .int .i64 0, .int .i64 0, .int .i64 0, .int .i64 0, .int .i64 0, .int .i64 0]) (cs := [_, _, _, _, _, _, _, _, _, _, _]) rfl) rfl (bA hst rfl (Io rfl rfl rfl (hst.get 0 rfl) (m := 11) rfl rfl (cells' := [_, _, _, _, _, _, _, _, _, _, _]) rfl) rfl (fun σ hst => ?_)))))))
   refine vQ 1 rfl (nT (aB (aD (au (?_)))))
   exact bm rfl rfl (hst.get 0 rfl) (m := 11) (by kernel_rfl) rfl rfl ⟨by rw [hN, show kb k c s l = (vK, 2) from by unfold kb; rw [mn h22]; rfl]; rfl, (hst.pop.pop).weaken hle⟩
  ·refine vQ 1 rfl (nT (aI rfl (aj (ah rfl (vQ 1 rfl (aa rfl (dH rfl) rfl (aa rfl (Iz 4 rfl) rfl (aa rfl (Ia rfl (hst.dR ht) rfl) rfl (aa rfl (H9 hev rfl rfl rfl (e := 56) rfl) rfl (vQ 1 rfl (aa rfl (H9 hl1 rfl rfl rfl (e := 56) rfl) rfl (aL rfl (aA rfl rfl rfl) (fun _ => rfl) (fun h32 => ?_) (fun h32 => ?_)))))))))))))
   ·refine vQ 1 rfl (nT (aC rfl (aj (ah rfl (vQ 1 rfl (aa rfl (dH rfl) rfl (aa rfl (Iz 4 rfl) rfl (aa rfl (Ia rfl (hst.dR ht) rfl) rfl (vQ 1 rfl (aa rfl (H9 hl1 rfl rfl rfl (e := 56) rfl) rfl ?_))))))))))
    obtain ⟨x39, hx39⟩ := cL (bW h32)
    refine Ib (e := 56) (m := 5) hev hx39 rfl rfl rfl rfl (fun _ => rfl) (fun p39 vs39 hp39 hl39 hr39 => ?_)
    obtain rfl := hr39
    refine aa rfl (cr hst hp39 rfl (by kernel_rfl) rfl) rfl (aa rfl (Is (places := [(0, 5), (5, 5), (10, 1)]) (zero := [.int .i64 0, .int .i64 0, .int .i64 0, .int .i64 0, .int .i64 0, .int .i64 0, .int .i64 0, .int .i64 0, .int .i64 0, .int .i64 0, .int .i64 0]) (cs := [_, _, _, _, _, _, _, _, _, _, _]) rfl) rfl (bA hst rfl (Io rfl rfl rfl (hst.get 0 rfl) (m := 11) rfl rfl (cells' := [_, _, _, _, _, _, _, _, _, _, _]) rfl) rfl (fun σ hst => ?_)))
    refine vQ 1 rfl (nT (aB (aD (au (?_)))))
    exact bm rfl rfl (hst.get 0 rfl) (m := 11) (by kernel_rfl) rfl rfl ⟨by rw [hN, show kb k c s l = (⟨x39, pz, 0⟩, 0) from by unfold kb; rw [fY h22, hx39]; rfl]; rfl, (hst.pop.pop).weaken hle⟩
   ·refine vQ 1 rfl (nT (aI rfl (aj (ah rfl (vQ 1 rfl (aa rfl (dH rfl) rfl (aa rfl (Iz 7 rfl) rfl (aL rfl (Ia rfl (hst.dR ht) rfl) (fun _ => rfl) (fun h46 => ?_) (fun h46 => ?_)))))))))
    ·refine vQ 1 rfl (nT (aC rfl (aj (ah rfl (vQ 1 rfl ?_)))))
     obtain ⟨xs, hxs⟩ := cL (htn.lt hR)
     have hrx := hc.right xs (List.mem_of_getElem? hxs)
     refine a9 rfl (It rfl rfl rfl) (fun _ => rfl) (Fs hG (oC hle hi) (by have := htn.aW; have := hc.AH; omega) hxs hrx hregs ht hst) (fun σ hst => ?_)
     refine aa rfl (Is (places := [(0, 5), (5, 5), (10, 1)]) (zero := [.int .i64 0, .int .i64 0, .int .i64 0, .int .i64 0, .int .i64 0, .int .i64 0, .int .i64 0, .int .i64 0, .int .i64 0, .int .i64 0, .int .i64 0]) (cs := [_, _, _, _, _, _, _, _, _, _, _]) rfl) rfl (bA hst rfl (Io rfl rfl rfl (hst.get 0 rfl) (m := 11) rfl rfl (cells' := [_, _, _, _, _, _, _, _, _, _, _]) rfl) rfl (fun σ hst => ?_))
     refine vQ 1 rfl (nT (aB (aD (au (?_)))))
     exact bm rfl rfl (hst.get 0 rfl) (m := 11) (by kernel_rfl) rfl rfl ⟨by rw [hN, show kb k c s l = (⟨s7, EG k xs s.aW, 0⟩, 0) from by unfold kb; rw [fY h22, List.getElem?_eq_none (bn h32), h46]; show ((⟨s7, nb k c s, 0⟩ : n8), (0 : Int)) = _; unfold nb; rw [hxs]]; rfl, (hst.pop.pop).weaken hle⟩
    ·refine vQ 1 rfl (nT (aI rfl (aF (aK (ad (aj (ah rfl (vQ 1 rfl (aa rfl (dH rfl) rfl (aa rfl (Iz 6 rfl) rfl (aa rfl (Ia rfl (hst.dR ht) rfl) rfl (aa rfl (Is (places := [(0, 5), (5, 5), (10, 1)]) (zero := [.int .i64 0, .int .i64 0, .int .i64 0, .int .i64 0, .int .i64 0, .int .i64 0, .int .i64 0, .int .i64 0, .int .i64 0, .int .i64 0, .int .i64 0]) (cs := [_, _, _, _, _, _, _, _, _, _, _]) rfl) rfl ?_))))))))))))
     refine bA hst rfl (Io rfl rfl rfl (hst.get 0 rfl) (m := 11) rfl rfl (cells' := [_, _, _, _, _, _, _, _, _, _, _]) rfl) rfl (fun σ hst => ?_)
     refine vQ 1 rfl (nT (aB ?_))
     exact bm rfl rfl (hst.get 0 rfl) (m := 11) (by kernel_rfl) rfl rfl ⟨by rw [hN, show kb k c s l = (⟨s7, pz, s.fin⟩, 0) from by unfold kb; rw [fY h22, List.getElem?_eq_none (bn h32), h46]; rfl]; rfl, (hst.pop.pop).weaken hle⟩
noncomputable def xi (x : XI) : Bool := bif bk x.kind 2 then true else bif bk x.kind 3 then true else bif bk x.kind 4 then true else bif bk x.kind 5 then true else bk x.kind 6
noncomputable def CA (n : Int) (x : XI) : Bool := bif xi x then bf (cd x.loc n) else false
noncomputable def wj (k : Nat) (c : XC) : Bool := bif cd 16 c.aW then true else cd 14 (BS k c)
noncomputable def tU (k : Nat) (n : Int) (c : XC) : Bool := bif iN k c then c.ins.any (CA n) else true
noncomputable def wC (k : Nat) (init : List Int) (l : List XC) : Int :=
 bif cd 4 (.ofNat l.length) then 3 else bif cd 6 (.ofNat init.length) then 3 else bif l.any (wj k) then 3 else bif l.any (tU k (.ofNat init.length)) then 2 else bif bk (.ofNat l.length) 0 then 2 else 0
structure EM (k : Nat) (init : List Int) (l : List XC) : Prop where
 len : l.length ≤ 4
 init : init.length ≤ 6
 pos : 0 < l.length
 flat : ∀ c ∈ l, iN k c = true
theorem Gm {k : Nat} {init : List Int} {l : List XC} (h : wC k init l = 0) : EM k init l := by
 unfold wC at h
 cases h1 : cd 4 (.ofNat l.length) with
 | true => rw [h1] at h; cases h
 | false =>
 cases h2 : cd 6 (.ofNat init.length) with
 | true => rw [h1, h2] at h; cases h
 | false =>
 cases h3 : l.any (wj k) with
 | true => rw [h1, h2, h3] at h; cases h
 | false =>
 cases h4 : l.any (tU k (.ofNat init.length)) with
 | true => rw [h1, h2, h3, h4] at h; cases h
 | false =>
 cases h5 : bk (.ofNat l.length) 0 with
 | true => rw [h1, h2, h3, h4, h5] at h; cases h
 | false =>
 refine ⟨bn (a := 4) h1, bn (a := 6) h2, ?_, fun c hc => ?_⟩
 ·rcases Nat.eq_zero_or_pos l.length with e | e
  ·rw [e] at h5; cases h5
  ·exact e
 ·have := List.any_eq_false.1 h4 c hc
  unfold tU at this
  cases hf : iN k c with
  | true => rfl
  | false => rw [hf] at this; exact absurd rfl this
theorem BZ {G : Cx} (hG : Plain G) {K : KP} {k : Nat} {x : XI} {vs : List AV} (h : fR K k x vs) {σ : av} {L : Own} (hst : St σ K L) : a7 Tryz.prog G 142 [.agg vs] σ fun v σ' => v = .bool (xi x) ∧ St σ' K L := by
 obtain ⟨w, rfl, hk⟩ := h
 refine a8 hG Tryz.func142 rfl (t := PT.leaf.put (some (.agg _)) 0) (by rfl) (aj (ah rfl (bp hst rfl (cU rfl rfl) (fun _ => rfl) (fun σ b1 hst => ?_))))
 refine vQ 1 rfl (nT (aj (aj (ah rfl (aa rfl (Iz 0 rfl) rfl (aa rfl (Ia rfl (hst.get 0 rfl) rfl) rfl (nT (aP (aj (aj (ah rfl ?_)))))))))))
 refine aL rfl (aA rfl rfl rfl) (fun _ => rfl) (fun h6 => ?_) (fun h6 => ?_)
 ·refine vQ 1 rfl (nT (aC rfl (aF (ad (aC rfl (aj (ah rfl (vQ 1 rfl (nT (aB (aD (au (?_)))))))))))))
  exact ay rfl rfl ⟨congrArg AV.bool (by unfold xi; simp only [h6, cond_true, cond_false]), hst.pop⟩
 ·refine vQ 1 rfl (nT (aI rfl (aj (ah rfl (aL rfl (aA rfl rfl rfl) (fun _ => rfl) (fun h7 => ?_) (fun h7 => ?_))))))
  ·refine vQ 1 rfl (nT (aC rfl (aF (ad (aC rfl (aj (ah rfl (vQ 1 rfl (nT (aB (aD (au (?_)))))))))))))
   exact ay rfl rfl ⟨congrArg AV.bool (by unfold xi; simp only [h6, h7, cond_true, cond_false]), hst.pop⟩
  ·refine vQ 1 rfl (nT (aI rfl (aj (ah rfl (aL rfl (aA rfl rfl rfl) (fun _ => rfl) (fun h8 => ?_) (fun h8 => ?_))))))
   ·refine vQ 1 rfl (nT (aC rfl (aF (ad (aC rfl (aj (ah rfl (vQ 1 rfl (nT (aB (aD (au (?_)))))))))))))
    exact ay rfl rfl ⟨congrArg AV.bool (by unfold xi; simp only [h6, h7, h8, cond_true, cond_false]), hst.pop⟩
   ·refine vQ 1 rfl (nT (aI rfl (aj (ah rfl (aL rfl (aA rfl rfl rfl) (fun _ => rfl) (fun h9 => ?_) (fun h9 => ?_))))))
    ·refine vQ 1 rfl (nT (aC rfl (aF (ad (aC rfl (aj (ah rfl (vQ 1 rfl (nT (aB (aD (au (?_)))))))))))))
     exact ay rfl rfl ⟨congrArg AV.bool (by unfold xi; simp only [h6, h7, h8, h9, cond_true, cond_false]), hst.pop⟩
    ·refine vQ 1 rfl (nT (aI rfl (ah rfl (aL rfl (aA rfl rfl rfl) (fun _ => rfl) (fun h10 => ?_) (fun h10 => ?_)))))
     ·refine vQ 1 rfl (nT (aC rfl (aj (ah rfl (vQ 1 rfl (nT (aB (aD (au (?_))))))))))
      exact ay rfl rfl ⟨congrArg AV.bool (by unfold xi; simp only [h6, h7, h8, h9, h10, cond_true, cond_false]), hst.pop⟩
     ·refine vQ 1 rfl (nT (aI rfl (aF (aK (ad (aj (ah rfl (vQ 1 rfl (nT (aB ?_))))))))))
      exact ay rfl rfl ⟨congrArg AV.bool (by unfold xi; simp only [h6, h7, h8, h9, h10, cond_true, cond_false]), hst.pop⟩
theorem G4 {G : Cx} (hG : Plain G) {K : KP} {k : Nat} {x : XI} {vs : List AV} (h : fR K k x vs) {init : List Int} {vi : AV} (hi : bC K 1 dE init vi) {bi e1 : Nat} {ro : Bool} (hb : K bi (.row [vi] e1 ro)) {σ : av} {L : Own} (hst : St σ K L) : a7 Tryz.prog G 141 [.agg vs, .ptr bi 0] σ fun v σ' => v = .bool (CA (.ofNat init.length) x) ∧ St σ' K L := by
 have h0 := h
 obtain ⟨w, rfl, hk⟩ := h
 refine a8 hG Tryz.func141 rfl (t := (PT.leaf.put (some (.agg _)) 0).put (some (.ptr bi 0)) 1) (by rfl) (aj (ah rfl (bp hst rfl (cU rfl rfl) (fun _ => rfl) (fun σ b1 hst => ?_))))
 refine vQ 1 rfl (nS rfl (aa rfl (IC rfl (hst.get 0 rfl) (n := 6) (vs := [_, _, _, _, _, _]) rfl) rfl (a9 rfl (It rfl rfl rfl) (fun _ => rfl) (BZ hG h0 hst) (fun σ hst => ?_))))
 refine aL rfl (al rfl) (fun _ => rfl) (fun h6 => ?_) (fun h6 => ?_)
 ·refine aa rfl (Iz 2 rfl) rfl (aa rfl (Ia rfl (hst.get 0 rfl) rfl) rfl (aa rfl (Ia rfl (hst.dR hb) rfl) rfl (aa rfl (H9 hi rfl rfl rfl (e := 2) rfl) rfl (vQ 3 rfl (nT (aB ?_))))))
  exact ay rfl rfl ⟨congrArg AV.bool (by unfold CA bf; rw [h6]; (first | done | rfl)), hst.pop⟩
 ·refine vQ 7 rfl (nT (aB ?_))
  exact ay rfl rfl ⟨congrArg AV.bool (by unfold CA bf; rw [h6]; (first | done | rfl)), hst.pop⟩
theorem vX {G : Cx} (hG : Plain G) {K : KP} {k : Nat} {l : List XI} {v : AV} {p : XI → Bool} {bi : Nat} (h : bC K 6 (fR K k) l v) {σ : av} {L : Own} (hst : St σ K L) (hcall : ∀ x u σ L, St σ K L → fR K k x u → a7 Tryz.prog G 141 [.agg u, .ptr bi 0] σ fun v σ' => v = .bool (p x) ∧ St σ' K L) :
  a7 Tryz.prog G 194 [v, .func 141 [] [.ptr bi 0]] σ fun v σ' => v = .int .i64 (qu p l 0) ∧ St σ' K L := by
 refine a8 hG Tryz.func194 rfl (t := (PT.leaf.put (some (v)) 0).put (some (.func 141 [] [.ptr bi 0])) 1) (by rfl) (aj (ah rfl (vQ 1 rfl (nT (aj (aj (ah rfl (vQ 1 rfl (aa rfl (H9 h rfl rfl rfl (e := 79) rfl) rfl (vQ 1 rfl (af (ad ?_))))))))))))
 refine aP ?_
 obtain ⟨LL1, hst, hLL1⟩ := hst.named
 refine bu [4, 5, 8, 9, 10, 11, 12, 13, 14, 15, 16, 17, 18] (fun j t σ => ∃ (i : Nat), j + i = l.length ∧ qu p l 0 = qu p (l.drop i) i ∧ t.get 8 = some (.int .i64 (.ofNat i)) ∧ St σ K LL1) (l.length) ⟨0, rfl, rfl, rfl, hst⟩ ?_
 clear hst; intro j2 t σ ar hI; obtain ⟨i, hj, he, hv8, hst⟩ := hI
 subst hLL1
 replace ar := ar.dC rfl rfl; obtain ⟨o4, o5, o8, o9, o10, o11, o12, o13, ar⟩ := ar
 replace ar := ar.rp rfl; obtain ⟨o14, o15, o16, o17, ar⟩ := ar
 replace ar := ar.fD rfl; obtain ⟨o18, ar⟩ := ar
 obtain rfl := ar.nil; clear ar
 replace hv8 : o8 = some _ := hv8; subst hv8
 refine aj (ah rfl (vQ 1 rfl (nT (aj (aE rfl (fun h9 => ?_) (fun h9 => ?_))))))
 ·refine aF (ad (aj (aP (aj (ah rfl (vQ 2 rfl (nS rfl (vQ 3 rfl ?_))))))))
  obtain ⟨x14, hx14, hi14⟩ := dv h9
  refine Ib (e := 79) (m := 6) h hx14 rfl rfl rfl rfl (fun _ => rfl) (fun p14 vs14 hp14 hl14 hr14 => ?_)
  have hr14raw := hr14; have hr14' := hr14; obtain ⟨v14, rfl, hk14⟩ := hr14'
  refine aa rfl (cr hst hp14 rfl (by kernel_rfl) rfl) rfl (a9 rfl (It rfl rfl rfl) (fun _ => rfl) (hcall x14 _ _ _ hst hr14raw) (fun σ hst => ?_))
  refine nT (aE rfl (fun h16 => ?_) (fun h16 => ?_))
  ·refine aj (ah rfl (vQ 2 rfl (nT (aB (aD (au (bx (aD (au (?_))))))))))
   exact ay rfl rfl ⟨congrArg (AV.int .i64) (by symm; rw [he, bV hx14]; show (bif p x14 then _ else _) = _; rw [h16]; rfl), hst⟩
  ·refine aF (aK (ad (ah rfl (vQ 2 rfl (af (aQ ⟨j2 - 1, by omega, (by (iterate 24 refine bq.put rfl ?_); exact bq.refl _ _), i + 1, by omega, by rw [he, bV hx14]; show (bif p x14 then _ else _) = _; rw [h16]; rfl, congrArg (fun z => some (AV.int .i64 z)) (bg (by have := h.bG; omega)), hst⟩))))))
 ·refine bz (aZ (bc (aU (ad (aj (ah rfl (vQ 1 rfl (nT (aB ?_)))))))))
  exact ay rfl rfl ⟨congrArg (AV.int .i64) (by symm; rw [he, eD (bn h9)]; rfl), hst⟩
theorem rq {G : Cx} (hG : Plain G) {K : KP} {k : Nat} {l : List XI} {v : AV} {p : XI → Bool} {bi : Nat} (h : bC K 6 (fR K k) l v) {σ : av} {L : Own} (hst : St σ K L) (hcall : ∀ x u σ L, St σ K L → fR K k x u → a7 Tryz.prog G 141 [.agg u, .ptr bi 0] σ fun v σ' => v = .bool (p x) ∧ St σ' K L) :
  a7 Tryz.prog G 143 [v, .func 141 [] [.ptr bi 0]] σ fun v σ' => v = .bool (l.any p) ∧ St σ' K L := by
 refine a8 hG Tryz.func143 rfl (t := (PT.leaf.put (some (v)) 0).put (some (.func 141 [] [.ptr bi 0])) 1) (by rfl) (aj (ah rfl (vQ 1 rfl (nS rfl (vQ 2 rfl (a9 rfl (It rfl rfl rfl) (fun _ => rfl) (vX hG h hst hcall) (fun σ hst => ?_)))))))
 refine vQ 2 rfl (nT (aB ?_))
 exact ay rfl rfl ⟨congrArg AV.bool (sA _ _), hst⟩
theorem Bm {G : Cx} (hG : Plain G) {K : KP} (hgl : kP G K) {k : Nat} {init : List Int} {vi : AV} (hi : bC K 1 dE init vi) {l : List XC} {lv : AV} (hl : bC K 2 (jM K k) l lv) {σ : av} {L : Own} (hst : St σ K L) :
  a7 Tryz.prog G 99 [vi, lv] σ fun v σ' => v = .int .i64 (wC k init l) ∧ St σ' K L := by
 refine a8 hG Tryz.func99 rfl (t := (PT.leaf.put (some (vi)) 0).put (some (lv)) 1) (by rfl) (aj (ah rfl (bp hst rfl (cU rfl hi.leaf.1) (fun _ => rfl) (fun σ b1 hst => ?_))))
 obtain ⟨K1, hle, hmem, hst⟩ := hst.ft (M := [_])
 have hb := hmem _ (.head _); clear hmem; dsimp only at hb
 replace hgl := hgl.mono hle; replace hi := hi.mono hle fun _ _ h => h; replace hl := hl.mono hle fun _ _ h => h.mono hle
 refine vQ 1 rfl (nT (aj (aj (ah rfl (vQ 1 rfl (aa rfl (H9 hl rfl rfl rfl (e := 33) rfl) rfl (vQ 1 rfl (aL rfl (al rfl) (fun _ => rfl) (fun h13 => ?_) (fun h13 => ?_)))))))))
 ·refine vQ 4 rfl (nT (aC rfl (aj (ah rfl (vQ 1 rfl (nT (aB (au (?_)))))))))
  exact ay rfl rfl ⟨congrArg (AV.int .i64) (by symm; unfold wC; rw [h13]; rfl), hst.weaken hle⟩
 ·refine aa rfl (Ia rfl (hst.dR hb) rfl) rfl (aa rfl (H9 hi rfl rfl rfl (e := 2) rfl) rfl (vQ 2 rfl (nT (aE rfl (fun h17 => ?_) (fun h17 => ?_)))))
  ·refine aj (ah rfl (vQ 1 rfl (nT (aB (au (?_))))))
   exact ay rfl rfl ⟨congrArg (AV.int .i64) (by symm; unfold wC; rw [h13, show cd 6 (.ofNat init.length) = true from h17]; rfl), hst.weaken hle⟩
  ·have h17x : cd 6 (.ofNat init.length) = false := h17
   refine aF (ad (aj (aj (ah rfl (vQ 1 rfl (aa rfl (H9 hl rfl rfl rfl (e := 33) rfl) rfl (vQ 1 rfl (nT (aP ?_)))))))))
   obtain ⟨LL1, hst, hLL1⟩ := hst.named
   refine bu [4, 6, 20, 21, 22, 23, 24, 25, 26, 27, 28, 29, 30, 31, 32] (fun j t σ => ∃ (i : Nat), j + i = l.length ∧ (l.take i).any (wj k) = false ∧ t.get 20 = some (.int .i64 (.ofNat i)) ∧ St σ K1 LL1) (l.length) ⟨0, rfl, rfl, rfl, hst⟩ ?_
   clear hst; intro j4 t σ ar hI; obtain ⟨i, hj4, ha4, hv20, hst⟩ := hI
   subst hLL1
   replace ar := ar.dC rfl rfl; obtain ⟨o4, o6, o20, o21, o22, o23, o24, o25, ar⟩ := ar
   replace ar := ar.rp rfl; obtain ⟨o26, o27, o28, o29, ar⟩ := ar
   replace ar := ar.fD rfl; obtain ⟨o30, ar⟩ := ar
   replace ar := ar.fD rfl; obtain ⟨o31, ar⟩ := ar
   replace ar := ar.fD rfl; obtain ⟨o32, ar⟩ := ar
   obtain rfl := ar.nil; clear ar
   replace hv20 : o20 = some _ := hv20; subst hv20
   refine aj (ah rfl (vQ 1 rfl (nT (aj (aE rfl (fun h21 => ?_) (fun h21 => ?_))))))
   ·refine aF (ad (aj (aP (aj (ah rfl ?_)))))
    obtain ⟨x22, hx22, hi22⟩ := dv h21
    refine Ib (e := 33) (m := 2) hl hx22 rfl rfl rfl rfl (fun _ => rfl) (fun p22 vs22 hp22 hl22 hr22 => ?_)
    have hr22' := hr22; obtain ⟨v22, rfl, hk22⟩ := hr22'
    refine aa rfl (cr hst hp22 rfl (by kernel_rfl) rfl) rfl (bp hst rfl (Ix (cs := [.int .i64 0, .aq])) (fun _ => rfl) (fun σ b2 hst => ?_))
    refine bA hst rfl (Io rfl rfl rfl (hst.get 0 rfl) (m := 2) rfl (ae rfl (ae hk22.leaf.2 az)) (cells' := [_, _]) rfl) rfl (fun σ hst => ?_)
    refine nS rfl (aa rfl (Iz 0 rfl) rfl (aa rfl (Ia rfl (hst.get 0 rfl) rfl) rfl (vQ 1 rfl (aL rfl (al rfl) (fun _ => rfl) (fun h27 => ?_) (fun h27 => ?_)))))
    ·refine vQ 4 rfl (nT (aC rfl (aj (ah rfl (vQ 1 rfl (nT (aB (aD (au (bx (aD (au (?_)))))))))))))
     exact ay rfl rfl ⟨congrArg (AV.int .i64) (by symm; unfold wC; rw [h13, show cd 6 (.ofNat init.length) = false from h17x, wc hx22 (show wj k x22 = true from by unfold wj; rw [h27]; rfl)]; rfl), (hst.pop).weaken hle⟩
    ·refine aa rfl (IC rfl (hst.get 0 rfl) (n := 2) (vs := [_, _]) rfl) rfl (a9 rfl (It rfl rfl rfl) (fun _ => rfl) (zV hG hgl hk22 hst) (fun σ hst => ?_))
     refine vQ 2 rfl (nT (aE rfl (fun h31 => ?_) (fun h31 => ?_)))
     ·refine aj (ah rfl (vQ 1 rfl (nT (aB (aD (au (bx (aD (au (?_))))))))))
      exact ay rfl rfl ⟨congrArg (AV.int .i64) (by symm; unfold wC; rw [h13, show cd 6 (.ofNat init.length) = false from h17x, wc hx22 (show wj k x22 = true from by unfold wj; rw [h27]; exact h31)]; rfl), (hst.pop).weaken hle⟩
     ·refine aF (aK (ad (ah rfl (vQ 2 rfl (af ?_)))))
      have hst := hst.pop
      refine aQ ⟨j4 - 1, by omega, (by (iterate 29 refine bq.put rfl ?_); exact bq.refl _ _), i + 1, by omega, wP ha4 hx22 (show wj k x22 = false from by unfold wj; rw [h27]; exact h31), congrArg (fun z => some (AV.int .i64 z)) (bg (by have := hl.bG; omega)), hst⟩
   ·refine bz (aZ (bc (aU (ad (aj (aj (ah rfl (vQ 1 rfl (aa rfl (H9 hl rfl rfl rfl (e := 33) rfl) rfl (vQ 1 rfl (nT (aP ?_))))))))))))
    obtain ⟨LL2, hst, hLL2⟩ := hst.named
    refine bu [4, 8, 9, 35, 36, 37, 38, 39, 40, 41, 42, 43, 44, 45, 46, 47] (fun j t σ => ∃ (i : Nat), j + i = l.length ∧ (l.take i).any (tU k (.ofNat init.length)) = false ∧ t.get 35 = some (.int .i64 (.ofNat i)) ∧ St σ K1 LL2) (l.length) ⟨0, rfl, rfl, rfl, hst⟩ ?_
    clear hst; intro j10 t σ ar hI; obtain ⟨i, hj10, ha10, hv35, hst⟩ := hI
    subst hLL2
    obtain ⟨o4, o8, o9, o35, o36, o37, o38, o39, o40, o41, o42, o43, o44, o45, o46, o47, ar⟩ := ar.HE rfl rfl rfl rfl
    obtain rfl := ar.nil; clear ar
    replace hv35 : o35 = some _ := hv35; subst hv35
    refine aj (ah rfl (vQ 1 rfl (nT (aj (aE rfl (fun h36 => ?_) (fun h36 => ?_))))))
    ·refine aF (ad (aj (aP (aj (ah rfl ?_)))))
     obtain ⟨x37, hx37, hi37⟩ := dv h36
     refine Ib (e := 33) (m := 2) hl hx37 rfl rfl rfl rfl (fun _ => rfl) (fun p37 vs37 hp37 hl37 hr37 => ?_)
     have hr37' := hr37; obtain ⟨v37, rfl, hk37⟩ := hr37'
     refine aa rfl (cr hst hp37 rfl (by kernel_rfl) rfl) rfl (bp hst rfl (Ix (cs := [.int .i64 0, .aq])) (fun _ => rfl) (fun σ b2 hst => ?_))
     refine bA hst rfl (Io rfl rfl rfl (hst.get 0 rfl) (m := 2) rfl (ae rfl (ae hk37.leaf.2 az)) (cells' := [_, _]) rfl) rfl (fun σ hst => ?_)
     refine nT (aj (aj (ah rfl (aa rfl (IC rfl (hst.get 0 rfl) (n := 2) (vs := [_, _]) rfl) rfl (a9 rfl (It rfl rfl rfl) (fun _ => rfl) (C8 hG hgl hk37 hst) (fun σ hst => ?_))))))
     refine aa rfl (dI rfl) rfl (nT (aE rfl (fun h41 => ?_) (fun h41 => ?_)))
     ·refine aj (ah rfl (vQ 1 rfl (nT (aB (au (aD (au (bx (aD (au (?_)))))))))))
      exact ay rfl rfl ⟨congrArg (AV.int .i64) (by symm; unfold wC; rw [h13, show cd 6 (.ofNat init.length) = false from h17x, nu ha4 (bn h21), wc hx37 (show tU k _ x37 = true from by unfold tU; rw [mn h41]; rfl)]; rfl), (hst.pop).weaken hle⟩
     ·refine aF (ad (aj (ah rfl (vQ 2 rfl (nS rfl (aa rfl (Iz 1 rfl) rfl (aa rfl (Ia rfl (hst.get 0 rfl) rfl) rfl (vQ 1 rfl (a9 rfl (It rfl rfl rfl) (fun _ => rfl) (rq hG hk37 hst (p := CA (.ofNat init.length)) fun x u σ L hst h => G4 hG h hi hb hst) (fun σ hst => ?_))))))))))
      refine nT (aE rfl (fun h46 => ?_) (fun h46 => ?_))
      ·refine aj (ah rfl (vQ 1 rfl (nT (aB (aD (au (bx (aD (au (?_))))))))))
       exact ay rfl rfl ⟨congrArg (AV.int .i64) (by symm; unfold wC; rw [h13, show cd 6 (.ofNat init.length) = false from h17x, nu ha4 (bn h21), wc hx37 (show tU k _ x37 = true from by unfold tU; rw [fY h41]; exact h46)]; rfl), (hst.pop).weaken hle⟩
      ·refine aF (aK (ad (ah rfl (vQ 2 rfl (af ?_)))))
       have hst := hst.pop
       refine aQ ⟨j10 - 1, by omega, (by (iterate 31 refine bq.put rfl ?_); exact bq.refl _ _), i + 1, by omega, wP ha10 hx37 (show tU k _ x37 = false from by unfold tU; rw [fY h41]; exact h46), congrArg (fun z => some (AV.int .i64 z)) (bg (by have := hl.bG; omega)), hst⟩
    ·refine bz (aZ (bc (aU (ad (aj (aj (ah rfl (vQ 1 rfl (aa rfl (H9 hl rfl rfl rfl (e := 33) rfl) rfl (vQ 1 rfl (nT (aE rfl (fun h50 => ?_) (fun h50 => ?_)))))))))))))
     ·refine aj (ah rfl (vQ 1 rfl (nT (aB (au (?_))))))
      exact ay rfl rfl ⟨congrArg (AV.int .i64) (by symm; unfold wC; rw [h13, show cd 6 (.ofNat init.length) = false from h17x, nu ha4 (bn h21), nu ha10 (bn h36), show bk (.ofNat l.length) 0 = true from h50]; rfl), hst.weaken hle⟩
     ·refine aF (ad (aj (ah rfl (vQ 1 rfl (nT (aB ?_))))))
      exact ay rfl rfl ⟨congrArg (AV.int .i64) (by symm; unfold wC; rw [h13, show cd 6 (.ofNat init.length) = false from h17x, nu ha4 (bn h21), nu ha10 (bn h36), show bk (.ofNat l.length) 0 = false from h50]; rfl), hst.weaken hle⟩
end Go.Ev
namespace Go.Ev
section
variable [Env] {H : Type}
def Fit (P : Program) : Nat → TypeId → DataW H → Prop
  | 0, _, _ => False
  | fuel + 1, t, d =>
    match P.underlying t with
    | some .bool => ∃ b, d = .lit (.bool b)
    | some (.int k) => ∃ n, d = .lit (.int k n)
    | some .string => ∃ s, d = .lit (.string s)
    | some (.slice e) => d = .nil ∨ ∃ elems spare, d = .slice elems spare ∧ ∀ x ∈ elems, Fit P fuel e x
    | some (.struct fs) => ∃ parts, d = .agg parts ∧ parts.length = fs.size ∧ ∀ (i : Nat) (f : Field) (x : DataW H), fs[i]? = some f → parts[i]? = some x → Fit P fuel f.type x
    | _ => True
theorem wN {α β : Type} {f : α → Option β} : ∀ {l : List α} {ys : List β}, l.mapM f = some ys → ys.length = l.length ∧ ∀ (i : Nat) (x : α), l[i]? = some x → ∃ y, ys[i]? = some y ∧ f x = some y
  | [], ys, h => by simp at h; subst h; exact ⟨rfl, fun i x hx => by simp at hx⟩
  | a :: l, ys, h => by
    simp only [List.mapM_cons, Option.bind_eq_bind, Option.bind_eq_some_iff, Option.pure_def, Option.some.injEq] at h
    obtain ⟨y, h1, r, h2, rfl⟩ := h
    obtain ⟨k1, k2⟩ := wN h2
    refine ⟨by simp [k1], fun i x hx => ?_⟩
    cases i with
    | zero => simp at hx; subst hx; exact ⟨y, rfl, h1⟩
    | succ i => simpa using k2 i x (by simpa using hx)
variable {enc : TypeId × Value → H} {P : Program} {w : World}
theorem j1 : ∀ (fuel : Nat) (t : TypeId) (cs : List Value) (d : DataW H) (p : List MemPlace), DataW.trod enc P w 0 (fun _ => true) true fuel t cs = some (d, p) → Fit P fuel t d
  | 0, _, _, _, _, h => by simp [DataW.trod] at h
  | fuel + 1, t, cs, d, p, h => by
    have ih := j1 fuel
    unfold Fit
    cases hu : P.underlying t with
    | none => trivial
    | some u =>
      unfold DataW.trod at h
      rw [hu] at h
      cases u with
      | bool =>
        split at h <;> first | (rename_i he; cases he; done) | skip
        all_goals first
          | (cases h; exact ⟨_, rfl⟩)
          | cases h
      | int k =>
        split at h <;> first | (rename_i he; cases he; done) | skip
        all_goals first
          | (rename_i k1 k2 n he
             cases he
             split at h
             · cases h; exact ⟨_, rfl⟩
             · cases h)
          | cases h
      | string =>
        split at h <;> first | (rename_i he; cases he; done) | skip
        all_goals first
          | (split at h
             · cases h; exact ⟨_, rfl⟩
             · cases h)
          | cases h
      | struct fs =>
        dsimp only at h ⊢
        split at h
        · obtain ⟨xs, hxs, hx⟩ := Option.map_eq_some_iff.1 h
          have hd : d = .agg (xs.map (·.1)) := by have := congrArg Prod.fst hx; simpa using this.symm
          obtain ⟨k1, k2⟩ := wN hxs
          refine ⟨_, hd, by simpa using k1, fun i f x hf hxx => ?_⟩
          obtain ⟨y, hy, hfy⟩ := k2 i f (by rw [Array.getElem?_toList]; exact hf)
          rw [List.getElem?_map, hy] at hxx
          cases hxx
          exact ih _ _ _ y.2 hfy
        · cases h
      | slice e =>
        split at h <;> first | (rename_i he; cases he; done) | skip
        · cases h; exact .inl rfl
        · rename_i e' a len cap he
          cases he
          dsimp only at h
          rw [if_pos rfl] at h
          split at h
          · obtain ⟨elems, he1, hr⟩ := Option.bind_eq_some_iff.1 h
            obtain ⟨rest, _, hd⟩ := Option.map_eq_some_iff.1 hr
            have hd : d = .slice (elems.map (·.1)) (rest.map (·.1)) := by have := congrArg Prod.fst hd; simpa using this.symm
            refine .inr ⟨_, _, hd, fun x hx => ?_⟩
            obtain ⟨y, hy, rfl⟩ := List.mem_map.1 hx
            obtain ⟨i, hi⟩ := List.getElem?_of_mem hy
            obtain ⟨k1, k2⟩ := jO he1
            obtain ⟨j, _, hj⟩ := k2 i y hi
            obtain ⟨c, _, hc⟩ := Option.bind_eq_some_iff.1 hj
            exact ih _ _ _ y.2 hc
          · cases h
        all_goals cases h
      | _ => trivial
end
section
variable [Env] {P : Program} {G : Cx}
def se (σ : av) : KP := fun b o => b < σ.next ∧ σ.m.get b = some o
theorem St.of (σ : av) : St σ (se σ) [] := ⟨fun b o h => ⟨h.1, h.2, fun e he => by cases he⟩, fun e he => (by cases he), List.Pairwise.nil⟩
theorem gN.Hi {w w' : World} {ρ ρ' : bN} {σ σ' : av} (h : dA ρ σ w ρ' σ' w') (hr : iu σ) : gN w w' :=
  ⟨h.os, h.out, h.tape, h.size, fun r hr' => h.frame r hr' fun ⟨b, o, l, h1, h2, _⟩ => by rw [hr b o h1] at h2; cases h2⟩
theorem xM (hm : P.follows .mixedOrders = true) (hC : xQ P G) {ρ : bN} {σ : av} {w : World} {f : Nat} {args : List AV} {xs : Array Value} {R : AV → av → Prop} (hi : Inv ρ σ w) (hg : GR ρ G) (hr : iu σ) (hx : bX ρ args xs.toList) (h : a7 P G f args σ R) :
    Calls P f xs w fun e w' => ∃ v x σ' ρ', e = .returned x ∧ gN w w' ∧ VR ρ' v x ∧ R v σ' := by
  obtain ⟨K, v, σ', h1, h2⟩ := h
  exact nf (fuel := K) hm hC (h1 K (Nat.le_refl _)) hi hg hx fun ρ' w' x _ st hv => ⟨v, x, σ', ρ', rfl, gN.Hi st hr, hv, h2⟩
theorem iu.leaf : iu σ0 := fun b o h => by
  have : (PT.leaf : PT bF).get b = some o := h
  rw [PT.jt] at this; cases this
theorem du.fresh {ρ : bN} {σ : av} {w : World} (hi : Inv ρ σ w) {b : Nat} {o : bF} (h : σ.m.get b = some o) : b < σ.next := by
  rcases Nat.lt_or_ge b σ.next with h' | h'
  · exact h'
  · rw [(hi.fresh b h').2] at h; cases h
end
section
variable {H : Type}
def pX : DataW H → Int
 | .lit (.int _ n) => n
 | _ => 0
def Hl : DataW H → List Nat
 | .lit (.string s) => s.map UInt8.toNat
 | _ => []
def gx : DataW H → List (DataW H)
 | .slice l _ => l
 | _ => []
def dB (d : DataW H) (i : Nat) : DataW H :=
 match d with
 | .agg ps => ps.getD i .nil
 | _ => .nil
def BY : Nat → DataW H → XE
 | 0, _ => .mk 0 0 [] []
 | 1, _ => .mk 0 0 [] []
 | k + 2, d => .mk (pX (dB d 0)) (pX (dB d 1)) (Hl (dB d 2)) ((gx (dB d 3)).map (BY k))
def F3 (k : Nat) (d : DataW H) : XI := ⟨pX (dB d 0), pX (dB d 1), pX (dB d 2), pX (dB d 3), pX (dB d 4), (gx (dB d 5)).map (BY k)⟩
def Ei (k : Nat) (d : DataW H) : XC := ⟨pX (dB d 0), (gx (dB d 1)).map (F3 k)⟩
end
section
variable [Env] {H : Type} {P : Program} {σ : av}
theorem kJ {fuel : Nat} {t : TypeId} {d : DataW H} {vs : List AV} {k : IntKind} (hu : P.underlying t = some (.int k)) (hf : Fit P fuel t d) (hd : du P σ fuel t d vs) : vs = [.int k (pX d)] ∧ (Lit.int k (pX d)).wf = true := by
 cases fuel with
 | zero => exact hf.elim
 | succ fuel =>
  unfold Fit at hf
  rw [hu] at hf
  obtain ⟨n, rfl⟩ := hf
  unfold du at hd
  rw [hu] at hd
  obtain ⟨_, h2, rfl⟩ := hd
  exact ⟨rfl, h2⟩
theorem F2 {fuel : Nat} {t : TypeId} {d : DataW H} {vs : List AV} (hu : P.underlying t = some .string) (hf : Fit P fuel t d) (hd : du P σ fuel t d vs) : vs = [.str (Hl d)] := by
 cases fuel with
 | zero => exact hf.elim
 | succ fuel =>
  unfold Fit at hf
  rw [hu] at hf
  obtain ⟨n, rfl⟩ := hf
  unfold du at hd
  rw [hu] at hd
  exact hd.2
theorem lu {α : Type} {fuel : Nat} {t e : TypeId} {m : Nat} {d : DataW H} {vs : List AV} (F : DataW H → α) (R : α → List AV → Prop) (hu : P.underlying t = some (.slice e)) (hm : P.cellsOf e = m) (h1 : 1 ≤ m) (hn : ∀ (b : Nat) (o : bF), σ.m.get b = some o → b < σ.next) (hf : Fit P (fuel + 1) t d) (hd : du P σ (fuel + 1) t d vs)
  (hR : ∀ x vs, Fit P fuel e x → du P σ fuel e x vs → R (F x) vs) : ∃ v, vs = [v] ∧ bC (se σ) m R ((gx d).map F) v := by
 unfold Fit at hf
 rw [hu] at hf
 dsimp only at hf
 unfold du at hd
 rw [hu] at hd
 rcases hf with rfl | ⟨elems, spare, rfl, hall⟩
 ·dsimp only at hd
  exact ⟨_, hd, .inl ⟨rfl, rfl⟩⟩
 ·dsimp only at hd
  rw [hm] at hd
  obtain ⟨b, c, cells, e', rfl, k2, k3, k4, k5, k6⟩ := hd h1
  refine ⟨_, rfl, .inr ⟨b, 0, c, cells, e', true, by rw [show (gx (DataW.slice elems spare)).map F = elems.map F from rfl, List.length_map], ?_, ⟨hn b _ k3, k3⟩, ?_, ?_, fun i x hx => ?_⟩⟩
  ·rw [show (gx (DataW.slice elems spare)).map F = elems.map F from rfl, List.length_map]
   rcases k4 with rfl | rfl
   ·exact .inr ⟨_, rfl, Nat.le_add_right _ _⟩
   ·exact .inl rfl
  ·rw [show (gx (DataW.slice elems spare)).map F = elems.map F from rfl, List.length_map, k5, Nat.zero_add]; exact Nat.le_refl _
  ·rw [show (gx (DataW.slice elems spare)).map F = elems.map F from rfl, List.length_map]; exact k2
  ·rw [show (gx (DataW.slice elems spare)).map F = elems.map F from rfl, List.getElem?_map, Option.map_eq_some_iff] at hx
   obtain ⟨y, hy, rfl⟩ := hx
   rw [Nat.zero_add]
   exact hR y _ (hall y (List.mem_of_getElem? hy)) (k6 i y hy)
theorem nh {fuel : Nat} {t : TypeId} {fs : Array Field} {d : DataW H} {vs : List AV} {m : Nat} (hu : P.underlying t = some (.struct fs)) (hc : P.cellsOf t = m) (ht : mC P fs.toList 0 = some m) (hf : Fit P (fuel + 1) t d) (hd : du P σ (fuel + 1) t d vs) :
  vs.length = m ∧ ∀ (i : Nat) (f : Field), fs[i]? = some f → Fit P fuel f.type (dB d i) ∧ du P σ fuel f.type (dB d i) ((vs.drop f.offset).take (P.cellsOf f.type)) := by
 unfold Fit at hf
 rw [hu] at hf
 dsimp only at hf
 obtain ⟨parts, rfl, hn, hall⟩ := hf
 unfold du at hd
 rw [hu] at hd
 dsimp only at hd
 rw [hc] at hd
 obtain ⟨_, h2, h3⟩ := hd ht
 refine ⟨h2, fun i f hi => ?_⟩
 have hlt : i < parts.length := by rw [hn]; exact (Array.getElem?_eq_some_iff.1 hi).1
 have hp : parts[i]? = some parts[i] := List.getElem?_eq_getElem hlt
 have : dB (.agg parts) i = parts[i] := by
  show parts.getD i .nil = _
  rw [List.getD_eq_getElem?_getD, hp]; rfl
 rw [this]
 exact ⟨hall i f _ hi hp, h3 i f _ hi hp⟩
theorem bC.Fv {α : Type} {K : KP} {m : Nat} {R R' : α → List AV → Prop} {l : List α} {v : AV} (h : bC K m R l v) (hR : ∀ x vs, R x vs → R' x vs) : bC K m R' l v := h.mono (KP.le_refl K) hR
theorem gH.up {K : KP} : ∀ {k : Nat} {x : XE} {vs : List AV}, gH K k x vs → gH K (k + 1) x vs
 | 0, x, _, h => by cases x; exact h.elim
 | k + 1, .mk op num name kids, vs, h => by
  obtain ⟨v, rfl, hk⟩ := h
  exact ⟨v, rfl, hk.Fv fun x vs h => gH.up h⟩
end
theorem Ca {H : Type} {enc : TypeId × Value → H} {P : Program} {w w' : World} {sp : Nat → Bool} (hs : ∀ r : Nat, r < w.heap.size → w'.heap[r]? = w.heap[r]?) {fuel : Nat} {t : TypeId} {cs : List Value} {x : DataW H × List MemPlace}
  (h : DataW.trod enc P w 0 sp true fuel t cs = some x) : DataW.trod enc P w' 0 sp true fuel t cs = some x := by
 refine DataW.trod_carry fuel t cs x h fun p hp => ?_
 have hlt := DataW.trod_lt fuel t cs x h p hp
 cases p with
 | cell b off =>
  show w'.cell? ⟨b, off, none⟩ = w.cell? ⟨b, off, none⟩
  unfold World.cell?
  rw [hs b hlt]
 | map b => exact hs b hlt
theorem pK {H : Type} {enc : TypeId × Value → H} {P : Program} {w w' : World} {sp : Nat → Bool} (hs : ∀ r : Nat, r < w.heap.size → w'.heap[r]? = w.heap[r]?) : ∀ {ts : List TypeId} {vs : List Value} {ds : List (DataW H)} {ps : List MemPlace},
  DataW.TrodAll enc P w 0 sp true ts vs ds ps → DataW.TrodAll enc P w' 0 sp true ts vs ds ps
 | [], [], [], _, h => h
 | _ :: _, _ :: _, _ :: _, _, ⟨p, q, ⟨n, h1⟩, h2, e⟩ => ⟨p, q, ⟨n, Ca hs h1⟩, pK hs h2, e⟩
theorem yi {H : Type} {enc : TypeId × Value → H} {P : Program} (hl : laidOutB P = true) (hm : mapsRowed P = true) (hz : ((List.range P.types.size).all fun t => match P.underlying t with | some (.slice e) => decide (0 < P.cellsOf e) | _ => true) = true) {w w' : World} (hk : gN w w') {ts : List TypeId} {vs : List Value} {ds : List (DataW H)} {ps : List MemPlace}
  (hT : (ts.all fun t => decide (t < P.types.size)) = true) (h : DataW.TrodAll enc P w 0 (fun _ => true) true ts vs ds ps) {sp : Nat → Bool} (hsp : ∀ p ∈ ps, sp p.block = true) : DataW.TrodAll enc P w' 0 sp true ts vs ds ps :=
 pK hk.same (h.respare (kids_rows hl hm) (slices_full_of P hz) (fun t ht => of_decide_eq_true (List.all_eq_true.1 hT t ht)) hsp)
end Go.Ev
namespace Go.Ev
variable [Env]
open Go.Proofs
set_option maxRecDepth 4000
set_option maxHeartbeats 8000000
theorem Ab {G : Cx} (hG : Plain G) {K : KP}  {l1 l2 : List Int} {v1 v2 : AV} {σ : av} {L : Own} (hst : St σ K L) (h1 : bC K 1 (dE) l1 v1) (h2 : bC K 1 (dE) l2 v2)
     : a7 Tryz.prog G 50 [v1, v2] σ fun v σ' => v = .bool (cz l1 l2) ∧ St σ' K L := by
  refine a8 hG Tryz.func50 rfl (t := (PT.leaf.put (some (v1)) 0).put (some (v2)) 1) (by rfl) (aj (ah rfl (vQ 1 rfl (nT (aj (aj (ah rfl (vQ 1 rfl (aa rfl (H9 h1 rfl rfl rfl (e := 2) rfl) rfl (vQ 1 rfl (aa rfl (H9 h2 rfl rfl rfl (e := 2) rfl) rfl (vQ 1 rfl ?_))))))))))))
  refine nT (aE rfl (fun h10 => ?_) (fun h10 => ?_))
  · skip
    refine aj (ah rfl (vQ 1 rfl (nT (aB (au (?_))))))
    exact ay rfl rfl ⟨by first | rw [dP (bM h10)] | (rw [eh hx19 hx23 (by simpa only [pJ] using bM h25)]) | rw [dk (dc (a6 h10)) (bn h14) hsame], hst⟩
  · skip
    refine aF (ad (aj (aj (ah rfl (vQ 1 rfl (nT (aP ?_)))))))
    obtain ⟨LL1, hst, hLL1⟩ := hst.named
    refine bu [4, 5, 11, 12, 13, 14, 15, 16, 17, 18, 19, 20, 21, 22, 23, 24, 25] (fun j t σ => ∃ (i : Nat), j + i = l1.length ∧ (∀ k, k < i → l1[k]? = l2[k]?) ∧ t.get 5 = some (.int .i64 (.ofNat i)) ∧ St σ K LL1) (l1.length) ⟨0, rfl, fun k hk => absurd hk (Nat.not_lt_zero _), rfl, hst⟩ ?_
    clear hst; intro j4 t σ ar hI; obtain ⟨i, hj, hsame, hv5, hst⟩ := hI
    subst hLL1
    obtain ⟨o4, o5, o11, o12, o13, o14, o15, o16, o17, o18, o19, o20, o21, o22, o23, o24, ar⟩ := ar.HE rfl rfl rfl rfl
    replace ar := ar.fD rfl; obtain ⟨o25, ar⟩ := ar
    obtain rfl := ar.nil; clear ar
    replace hv5 : o5 = some _ := hv5; subst hv5
    refine aj (aj (ah rfl (vQ 2 rfl (aa rfl (H9 h1 rfl rfl rfl (e := 2) rfl) rfl (vQ 1 rfl (nT (aE rfl (fun h14 => ?_) (fun h14 => ?_))))))))
    · skip
      refine aF (ad (aj (aP (aj (aR (l := [(0, []), (1, []), (2, []), (3, []), (4, []), (5, []), (6, []), (7, []), (8, [])]) (by kernel_rfl) (by kernel_rfl) (wQ 2 rfl ?_))))))
      obtain ⟨x19, hx19, hi19⟩ := dv h14
      refine Ic (e := 2) (m := 1) h1 hx19 rfl rfl rfl rfl rfl (fun _ => rfl) (fun p19 vs19 hp19 hl19 hr19 => ?_)
      obtain rfl := hr19
      refine an rfl rfl (Ih hst hp19 rfl rfl) rfl (wQ 2 rfl ?_)
      obtain ⟨x23, hx23⟩ := cL (show _ < l2.length from by rw [← dc (a6 h10)]; exact hi19)
      refine Ic (e := 2) (m := 1) h2 hx23 rfl rfl rfl rfl rfl (fun _ => rfl) (fun p23 vs23 hp23 hl23 hr23 => ?_)
      obtain rfl := hr23
      refine an rfl rfl (Ih hst hp23 rfl rfl) rfl (wQ 1 rfl (ba (ad (aE rfl (fun h25 => ?_) (fun h25 => ?_)))))
      · skip
        refine aj (ah rfl (vQ 1 rfl (nT (aB (aD (au (bx (aD (au (?_))))))))))
        exact ay rfl rfl ⟨by first | rw [dP (bM h10)] | (rw [eh hx19 hx23 (by simpa only [pJ] using bM h25)]) | rw [dk (dc (a6 h10)) (bn h14) hsame], hst⟩
      · skip
        refine aF (aK (ad (ah rfl (vQ 3 rfl (af (aQ ⟨j4 - 1, by omega, (by (iterate 33 refine bq.put rfl ?_); exact bq.refl _ _), i + 1, by omega, gV hsame hx19 hx23 (by simpa only [pJ] using a6 h25), congrArg (fun z => some (AV.int .i64 z)) (bg (by have := h1.bG; omega)), hst⟩))))))
    · skip
      refine bz (aZ (bc (aU (ad (aj (ah rfl (vQ 1 rfl (nT (aB ?_)))))))))
      exact ay rfl rfl ⟨by first | rw [dP (bM h10)] | (rw [eh hx19 hx23 (by simpa only [pJ] using bM h25)]) | rw [dk (dc (a6 h10)) (bn h14) hsame], hst⟩
theorem D5 {G : Cx} (hG : Plain G) {K : KP}  {l1 l2 : List cS} {v1 v2 : AV} {σ : av} {L : Own} (hst : St σ K L) (h1 : bC K 5 (kQ) l1 v1) (h2 : bC K 5 (kQ) l2 v2)
     : a7 Tryz.prog G 51 [v1, v2] σ fun v σ' => v = .bool (cz l1 l2) ∧ St σ' K L := by
  refine a8 hG Tryz.func51 rfl (t := (PT.leaf.put (some (v1)) 0).put (some (v2)) 1) (by rfl) (aj (ah rfl (vQ 1 rfl (nT (aj (aj (ah rfl (vQ 1 rfl (aa rfl (H9 h1 rfl rfl rfl (e := 56) rfl) rfl (vQ 1 rfl (aa rfl (H9 h2 rfl rfl rfl (e := 56) rfl) rfl (vQ 1 rfl ?_))))))))))))
  refine nT (aE rfl (fun h10 => ?_) (fun h10 => ?_))
  · skip
    refine aj (ah rfl (vQ 1 rfl (nT (aB (au (?_))))))
    exact ay rfl rfl ⟨by first | rw [dP (bM h10)] | (rw [eh hx19 hx23 (by exact (cS.same (x := x19) (y := x23)).symm.trans (bM h25))]) | rw [dk (dc (a6 h10)) (bn h14) hsame], hst⟩
  · skip
    refine aF (ad (aj (aj (ah rfl (vQ 1 rfl (nT (aP ?_)))))))
    obtain ⟨LL1, hst, hLL1⟩ := hst.named
    refine bu [4, 5, 11, 12, 13, 14, 15, 16, 17, 18, 19, 20, 21, 22, 23, 24, 25] (fun j t σ => ∃ (i : Nat), j + i = l1.length ∧ (∀ k, k < i → l1[k]? = l2[k]?) ∧ t.get 5 = some (.int .i64 (.ofNat i)) ∧ St σ K LL1) (l1.length) ⟨0, rfl, fun k hk => absurd hk (Nat.not_lt_zero _), rfl, hst⟩ ?_
    clear hst; intro j4 t σ ar hI; obtain ⟨i, hj, hsame, hv5, hst⟩ := hI
    subst hLL1
    obtain ⟨o4, o5, o11, o12, o13, o14, o15, o16, o17, o18, o19, o20, o21, o22, o23, o24, ar⟩ := ar.HE rfl rfl rfl rfl
    replace ar := ar.fD rfl; obtain ⟨o25, ar⟩ := ar
    obtain rfl := ar.nil; clear ar
    replace hv5 : o5 = some _ := hv5; subst hv5
    refine aj (aj (ah rfl (vQ 2 rfl (aa rfl (H9 h1 rfl rfl rfl (e := 56) rfl) rfl (vQ 1 rfl (nT (aE rfl (fun h14 => ?_) (fun h14 => ?_))))))))
    · skip
      refine aF (ad (aj (aP (aj (aR (l := [(0, []), (1, []), (2, []), (3, []), (4, []), (5, []), (6, []), (7, []), (8, [])]) (by kernel_rfl) (by kernel_rfl) (wQ 2 rfl ?_))))))
      obtain ⟨x19, hx19, hi19⟩ := dv h14
      refine Ic (e := 56) (m := 5) h1 hx19 rfl rfl rfl rfl rfl (fun _ => rfl) (fun p19 vs19 hp19 hl19 hr19 => ?_)
      obtain rfl := hr19
      refine an rfl rfl (cr hst hp19 rfl (by kernel_rfl) rfl) rfl (wQ 2 rfl ?_)
      obtain ⟨x23, hx23⟩ := cL (show _ < l2.length from by rw [← dc (a6 h10)]; exact hi19)
      refine Ic (e := 56) (m := 5) h2 hx23 rfl rfl rfl rfl rfl (fun _ => rfl) (fun p23 vs23 hp23 hl23 hr23 => ?_)
      obtain rfl := hr23
      refine an rfl rfl (cr hst hp23 rfl (by kernel_rfl) rfl) rfl (an rfl rfl (Ai (n := 5) (ca := [_, _, _, _, _]) (cb := [_, _, _, _, _]) (by kernel_rfl) rfl rfl rfl rfl) rfl (ba (ad (aE rfl (fun h25 => ?_) (fun h25 => ?_)))))
      · skip
        refine aj (ah rfl (vQ 1 rfl (nT (aB (aD (au (bx (aD (au (?_))))))))))
        exact ay rfl rfl ⟨by first | rw [dP (bM h10)] | (rw [eh hx19 hx23 (by exact (cS.same (x := x19) (y := x23)).symm.trans (bM h25))]) | rw [dk (dc (a6 h10)) (bn h14) hsame], hst⟩
      · skip
        refine aF (aK (ad (ah rfl (vQ 3 rfl (af (aQ ⟨j4 - 1, by omega, (by (iterate 33 refine bq.put rfl ?_); exact bq.refl _ _), i + 1, by omega, gV hsame hx19 hx23 (by exact (cS.same (x := x19) (y := x23)).symm.trans (a6 h25)), congrArg (fun z => some (AV.int .i64 z)) (bg (by have := h1.bG; omega)), hst⟩))))))
    · skip
      refine bz (aZ (bc (aU (ad (aj (ah rfl (vQ 1 rfl (nT (aB ?_)))))))))
      exact ay rfl rfl ⟨by first | rw [dP (bM h10)] | (rw [eh hx19 hx23 (by exact (cS.same (x := x19) (y := x23)).symm.trans (bM h25))]) | rw [dk (dc (a6 h10)) (bn h14) hsame], hst⟩
theorem Fz {G : Cx} (hG : Plain G) {K : KP}  {l1 l2 : List cW} {v1 v2 : AV} {σ : av} {L : Own} (hst : St σ K L) (h1 : bC K 2 (kR) l1 v1) (h2 : bC K 2 (kR) l2 v2)
     : a7 Tryz.prog G 41 [v1, v2] σ fun v σ' => v = .bool (cz l1 l2) ∧ St σ' K L := by
  refine a8 hG Tryz.func41 rfl (t := (PT.leaf.put (some (v1)) 0).put (some (v2)) 1) (by rfl) (aj (ah rfl (vQ 1 rfl (nT (aj (aj (ah rfl (vQ 1 rfl (aa rfl (H9 h1 rfl rfl rfl (e := 67) rfl) rfl (vQ 1 rfl (aa rfl (H9 h2 rfl rfl rfl (e := 67) rfl) rfl (vQ 1 rfl ?_))))))))))))
  refine nT (aE rfl (fun h10 => ?_) (fun h10 => ?_))
  · skip
    refine aj (ah rfl (vQ 1 rfl (nT (aB (au (?_))))))
    exact ay rfl rfl ⟨by first | rw [dP (bM h10)] | (rw [eh hx19 hx23 (by exact (cW.same (x := x19) (y := x23)).symm.trans (bM h25))]) | rw [dk (dc (a6 h10)) (bn h14) hsame], hst⟩
  · skip
    refine aF (ad (aj (aj (ah rfl (vQ 1 rfl (nT (aP ?_)))))))
    obtain ⟨LL1, hst, hLL1⟩ := hst.named
    refine bu [4, 5, 11, 12, 13, 14, 15, 16, 17, 18, 19, 20, 21, 22, 23, 24, 25] (fun j t σ => ∃ (i : Nat), j + i = l1.length ∧ (∀ k, k < i → l1[k]? = l2[k]?) ∧ t.get 5 = some (.int .i64 (.ofNat i)) ∧ St σ K LL1) (l1.length) ⟨0, rfl, fun k hk => absurd hk (Nat.not_lt_zero _), rfl, hst⟩ ?_
    clear hst; intro j4 t σ ar hI; obtain ⟨i, hj, hsame, hv5, hst⟩ := hI
    subst hLL1
    obtain ⟨o4, o5, o11, o12, o13, o14, o15, o16, o17, o18, o19, o20, o21, o22, o23, o24, ar⟩ := ar.HE rfl rfl rfl rfl
    replace ar := ar.fD rfl; obtain ⟨o25, ar⟩ := ar
    obtain rfl := ar.nil; clear ar
    replace hv5 : o5 = some _ := hv5; subst hv5
    refine aj (aj (ah rfl (vQ 2 rfl (aa rfl (H9 h1 rfl rfl rfl (e := 67) rfl) rfl (vQ 1 rfl (nT (aE rfl (fun h14 => ?_) (fun h14 => ?_))))))))
    · skip
      refine aF (ad (aj (aP (aj (aR (l := [(0, []), (1, []), (2, []), (3, []), (4, []), (5, []), (6, []), (7, []), (8, [])]) (by kernel_rfl) (by kernel_rfl) (wQ 2 rfl ?_))))))
      obtain ⟨x19, hx19, hi19⟩ := dv h14
      refine Ic (e := 67) (m := 2) h1 hx19 rfl rfl rfl rfl rfl (fun _ => rfl) (fun p19 vs19 hp19 hl19 hr19 => ?_)
      obtain rfl := hr19
      refine an rfl rfl (cr hst hp19 rfl (by kernel_rfl) rfl) rfl (wQ 2 rfl ?_)
      obtain ⟨x23, hx23⟩ := cL (show _ < l2.length from by rw [← dc (a6 h10)]; exact hi19)
      refine Ic (e := 67) (m := 2) h2 hx23 rfl rfl rfl rfl rfl (fun _ => rfl) (fun p23 vs23 hp23 hl23 hr23 => ?_)
      obtain rfl := hr23
      refine an rfl rfl (cr hst hp23 rfl (by kernel_rfl) rfl) rfl (an rfl rfl (Ai (n := 2) (ca := [_, _]) (cb := [_, _]) (by kernel_rfl) rfl rfl rfl rfl) rfl (ba (ad (aE rfl (fun h25 => ?_) (fun h25 => ?_)))))
      · skip
        refine aj (ah rfl (vQ 1 rfl (nT (aB (aD (au (bx (aD (au (?_))))))))))
        exact ay rfl rfl ⟨by first | rw [dP (bM h10)] | (rw [eh hx19 hx23 (by exact (cW.same (x := x19) (y := x23)).symm.trans (bM h25))]) | rw [dk (dc (a6 h10)) (bn h14) hsame], hst⟩
      · skip
        refine aF (aK (ad (ah rfl (vQ 3 rfl (af (aQ ⟨j4 - 1, by omega, (by (iterate 33 refine bq.put rfl ?_); exact bq.refl _ _), i + 1, by omega, gV hsame hx19 hx23 (by exact (cW.same (x := x19) (y := x23)).symm.trans (a6 h25)), congrArg (fun z => some (AV.int .i64 z)) (bg (by have := h1.bG; omega)), hst⟩))))))
    · skip
      refine bz (aZ (bc (aU (ad (aj (ah rfl (vQ 1 rfl (nT (aB ?_)))))))))
      exact ay rfl rfl ⟨by first | rw [dP (bM h10)] | (rw [eh hx19 hx23 (by exact (cW.same (x := x19) (y := x23)).symm.trans (bM h25))]) | rw [dk (dc (a6 h10)) (bn h14) hsame], hst⟩
end Go.Ev
