/- Part of the proof: an evaluator of the model's code, rules for walks on it, walks. Without conditions. -/
import Derived.Test.YtpomgjnfncgkgaaGreatDoorEg
set_option linter.unusedSectionVars false
set_option linter.unusedVariables false
set_option linter.unusedSimpArgs false
namespace Go.Ev
variable [Env]
open Go.Proofs
set_option maxRecDepth 100000
set_option maxHeartbeats 8000000
noncomputable def DB (f : Nat) (args : List AV) : Option AV := bif Nat.beq f 18 then (match args with | [] => some (.bool true) | _ => none) else none
noncomputable def GC : Cx := ⟨6, zZ, DU, DB, jz, [], fun _ _ _ => none, fun _ _ _ => none⟩
theorem Hw : xQ Tryz.prog GC := by
 refine ⟨Hh, fun f args v h => ?_, (fun e h => by cases h), (fun f a s v h => by cases h)⟩
 have h : DB f args = some v := h
 show AT Tryz.prog 6 jz f args v
 unfold DB at h
 cases h18 : Nat.beq f 18 with
 | true =>
  rw [h18] at h
  simp only [cond_true] at h
  cases args with
  | nil => cases h; rw [Nat.eq_of_beq_eq_true h18]; exact Ey
  | cons _ _ => cases h
 | false =>
  rw [h18] at h
  cases h
theorem E7 : Plain GC := ⟨fun _ _ _ => rfl, fun f a h => by
 show DB f a = none
 have : Nat.beq f 18 = false := by
  unfold BN at h
  cases h2 : Nat.beq f 18 with
  | false => rfl
  | true => rw [h2, Bool.or_true] at h; cases h
 unfold DB; rw [this]; rfl, rfl, fun _ _ _ => rfl, fun f h => h⟩
theorem nE {gl : Nat} {σ : av} {g : Nat} {c : List AV} {r : List (Nat × List AV)} {e : TypeId} (h1 : Nat.ble (Nat.succ g) gl = true) (h2 : dz c = true) (h3 : gz c c = true) (h4 : σ.m.get g = some (.row c e true)) (h5 : hX gl σ r = true) : hX gl σ ((g, c) :: r) = true := by
 show (bif Nat.ble (Nat.succ g) gl then (match σ.m.get g with
  | some (.row cells _ true) => bif dz c then (bif gz cells c then hX gl σ r else false) else false
  | _ => false) else false) = true
 rw [h4, h1]; dsimp only; rw [h2, h3, h5]; rfl
structure xH (K : KP) : Prop where
 h0 : ∃ e, K (posOf 0) (.row p8 e true)
 h1 : ∃ e, K (posOf 1) (.row ei e true)
 h4 : ∃ e, K (posOf 4) (.row vo e true)
 h5 : ∃ e, K (posOf 5) (.row vj e true)
theorem xH.laid {K : KP} (h : xH K) (σ : av) (L : Own) (hst : St σ K L) : hX GC.gl σ GC.laid = true := by
 obtain ⟨⟨e0, h0⟩, ⟨e1, h1⟩, ⟨e4, h4⟩, ⟨e5, h5⟩⟩ := h
 exact nE (gl := 6) (by decide) (by kernel_rfl) (by kernel_rfl) (hst.dR h0) (nE (by decide) (by kernel_rfl) (by kernel_rfl) (hst.dR h1) (nE (by decide) (by kernel_rfl) (by kernel_rfl) (hst.dR h4) (nE (by decide) (by kernel_rfl) (by kernel_rfl) (hst.dR h5) rfl)))
theorem xH.sh {K : KP} (h : xH K) : kP GC K := by
 obtain ⟨e, h0⟩ := h.h0
 have e1 : vW = p8 := by kernel_rfl
 exact ⟨by decide, e, true, by rw [e1]; exact h0⟩
theorem FO (E : Nat → TypeId) : (σG 6 jz E).m.get (posOf 0) = some (.row p8 (E 0) true) := rfl
theorem F8 (E : Nat → TypeId) : (σG 6 jz E).m.get (posOf 1) = some (.row ei (E 1) true) := rfl
theorem FJ (E : Nat → TypeId) : (σG 6 jz E).m.get (posOf 4) = some (.row vo (E 4) true) := rfl
theorem F9 (E : Nat → TypeId) : (σG 6 jz E).m.get (posOf 5) = some (.row vj (E 5) true) := rfl
section
variable {H : Type} {enc : TypeId × Value → H} {w : World}
theorem DJ (ho : Dp w) (hgl : 6 ≤ w.heap.size) (hl : ∀ x ∈ jz, iI w x) {F : Nat} {q0 q1 q2 : List Value} {x0 x1 x2 : DataW H × List MemPlace}
  (t0 : DataW.trod enc Tryz.prog w 0 (fun _ => true) true (F + 5) 22 q0 = some x0) (t1 : DataW.trod enc Tryz.prog w 0 (fun _ => true) true (F + 5) 27 q1 = some x1) (t2 : DataW.trod enc Tryz.prog w 0 (fun _ => true) true (F + 5) 34 q2 = some x2) :
  ∃ (ρ : bN) (σ : av) (a0 a1 a2 : AV), Inv ρ σ w ∧ iu σ ∧ GR ρ GC ∧ bX ρ [a0] q0 ∧ bX ρ [a1] q1 ∧ bX ρ [a2] q2 ∧ bC (se σ) 1 dE ((gx x0.1).map pX) a0 ∧ bC (se σ) 2 (jM (se σ) F) ((gx x1.1).map (Ei F)) a1 ∧ bC (se σ) 1 dE ((gx x2.1).map pX) a2 ∧ xH (se σ) := by
 have hw : ∃ (r : Nat) (c : Array Value) (e : TypeId) (fr : Nat × Nat), w.heap[r]? = some (Obj.cells c e fr) := by
  obtain ⟨c, e, fr, h, _⟩ := hl (0, p8) (.head _)
  exact ⟨0, c, e, fr, h⟩
 have hi0 := G5 ho hgl H5 hl
 have hr0 : iu (σG 6 jz (elemAt w)) := fun b o h => by
  obtain ⟨x, _, _, rfl⟩ := σG_get h
  rfl
 obtain ⟨ρ1, σ1, vs0, i1, r1, l1, d0, v0⟩ := lay hw (F + 5) 22 q0 x0.1 x0.2 t0 _ _ hi0 hr0
 obtain ⟨ρ2, σ2, vs1, i2, r2, l2, d1, v1⟩ := lay hw (F + 5) 27 q1 x1.1 x1.2 t1 _ _ i1 r1
 obtain ⟨ρ3, σ3, vs2, i3, r3, l3, d2, v2⟩ := lay hw (F + 5) 34 q2 x2.1 x2.2 t2 _ _ i2 r2
 have n1 : ∀ (b : Nat) (o : bF), σ1.m.get b = some o → b < σ1.next := fun b o h => du.fresh i1 h
 have n2 : ∀ (b : Nat) (o : bF), σ2.m.get b = some o → b < σ2.next := fun b o h => du.fresh i2 h
 have n3 : ∀ (b : Nat) (o : bF), σ3.m.get b = some o → b < σ3.next := fun b o h => du.fresh i3 h
 have k12 : KP.le (se σ1) (se σ2) := fun b o h => ⟨n2 b o (l2.get b o h.2), l2.get b o h.2⟩
 have k23 : KP.le (se σ2) (se σ3) := fun b o h => ⟨n3 b o (l3.get b o h.2), l3.get b o h.2⟩
 have c2 : Tryz.prog.cellsOf 2 = 1 := by kernel_rfl
 have c3 : Tryz.prog.cellsOf 3 = 1 := by kernel_rfl
 obtain ⟨a0, rfl, s0⟩ := lu (m := 1) pX dE Tryz.underlying22 c2 (by decide) n1 (j1 _ _ _ _ x0.2 t0) d0 fun x vs hf hd => (kJ Tryz.underlying2 hf hd).1
 obtain ⟨a1, rfl, s1⟩ := DM n2 F x1.1 vs1 (j1 _ _ _ _ x1.2 t1) d1
 obtain ⟨a2, rfl, s2⟩ := lu (m := 1) pX dE Tryz.underlying34 c3 (by decide) n3 (j1 _ _ _ _ x2.2 t2) d2 fun x vs hf hd => (kJ Tryz.underlying3 hf hd).1
 have hget : ∀ (b : Nat) (o : bF), (σG 6 jz (elemAt w)).m.get b = some o → se σ3 b o := fun b o h => ⟨n3 b o (l3.get b o (l2.get b o (l1.get b o h))), l3.get b o (l2.get b o (l1.get b o h))⟩
 refine ⟨ρ3, σ3, a0, a1, a2, i3, r3, fun g hg => ?_, v0.mono (bN.le_trans l2.le l3.le), v1.mono l3.le, v2, (s0.mono k12 fun _ _ h => h).mono k23 fun _ _ h => h, s1.mono k23 fun _ _ h => h.mono k23, s2, ⟨⟨_, hget _ _ (FO _)⟩, ⟨_, hget _ _ (F8 _)⟩, ⟨_, hget _ _ (FJ _)⟩, ⟨_, hget _ _ (F9 _)⟩⟩⟩
 exact ⟨_, l3.le _ _ (l2.le _ _ (l1.le _ _ (show ρG w 6 g = some ⟨g, 0, qb w g⟩ from if_pos hg)))⟩
end
end Go.Ev
