/- Part of the proof: an evaluator of the model's code, rules for walks on it, walks. Without conditions. -/
import Derived.Test.YtgppgbbkngfanaaGreatDoorEr
import Derived.Test.YtgppgbbkngfanaaGreatDoorEe
import Derived.Test.YtgppgbbkngfanaaGreatDoorEs
set_option linter.unusedSectionVars false
set_option linter.unusedVariables false
set_option linter.unusedSimpArgs false
noncomputable section
namespace Go.Ev
variable [Env]
open Go.Proofs
set_option maxRecDepth 100000
set_option maxHeartbeats 8000000
def tblM (f : Nat) (args : List AV) : Option AV := bif Nat.beq f 4 then (match args with | [] => some (.bool true) | _ => none) else none
def noneB (_ : Nat) : Bool := false
def GC0 : Cx := ⟨6, isOvM, noneB, tblM, laidL, [], fun _ _ _ => none, fun _ _ _ => none⟩
theorem tblM_ok (f : Nat) (args : List AV) (v : AV) (h : tblM f args = some v) : Known Tryz.prog 6 laidL f args v := by
  unfold tblM at h
  cases h5 : Nat.beq f 4 with
  | true =>
    rw [h5] at h
    simp only [cond_true] at h
    cases args with
    | nil => cases h; rw [Nat.eq_of_beq_eq_true h5]; exact known4
    | cons _ _ => cases h
  | false =>
    rw [h5] at h
    cases h
theorem tblM_none (f : Nat) (a : List AV) (h : livB f = false) : tblM f a = none := by
  unfold tblM; rw [show Nat.beq f 4 = false from h]; rfl
theorem okGC0 : CxOK Tryz.prog GC0 := ⟨ovsM, tblM_ok, (fun e h => by cases h), (fun f a s v s' h => by cases h)⟩
theorem plainGC0 : Plain GC0 := ⟨fun _ _ _ _ => rfl, tblM_none, rfl, fun _ _ _ => rfl, fun f h => rfl⟩
def ktbS (f : Nat) (a : List AV) (s : AHeap) : Option (AV × AHeap) :=
  bif Nat.beq f 16 then sortK Tryz.prog GC0 16 4 (fun g => Nat.beq g 17) f a s else none
def GC : Cx := ⟨6, isOvM, noneB, tblM, laidL, [], fun _ _ _ => none, ktbS⟩
theorem eg17 (g : Nat) (h : Nat.beq g 17 = true) (args : Array Value) (w : World) : (callFunc g args).run Tryz.prog w = .ok (.enter g args) w := by
  obtain rfl := Nat.eq_of_beq_eq_true h
  exact enters_of Tryz.func17 (by kernel_rfl) rfl args w
theorem okGC : CxOK Tryz.prog GC := by
  refine ⟨ovsM, tblM_ok, (fun e h => by cases h), fun f a s v s' h ρ w xs hi hg hx => ?_⟩
  have h : ktbS f a s = some (v, s') := h
  unfold ktbS at h
  cases h1 : Nat.beq f 16 with
  | true =>
    rw [h1] at h
    simp only [cond_true] at h
    exact sort_sound drawnM okGC0 Tryz.sort16 (by decide) Tryz.isAgg41 Tryz.sizeOf41 eg17 h ρ w xs hi hg hx
  | false =>
    rw [h1] at h
    cases h
theorem plainGC : Plain GC := ⟨fun f a s h => by
  show ktbS f a s = none
  unfold ktbS
  rw [show Nat.beq f 16 = false from h]; rfl, tblM_none, rfl, fun _ _ _ => rfl, fun f h => rfl⟩
theorem srtGC : Srt GC GC0 := ⟨plainGC, plainGC0, fun a s => rfl⟩
theorem laid_step {gl : Nat} {σ : AHeap} {g : Nat} {c : List AV} {r : List (Nat × List AV)} {e : TypeId} (h1 : Nat.ble (Nat.succ g) gl = true) (h2 : allFlat c = true) (h3 : eqFlats c c = true) (h4 : σ.m.get g = some (.row c e true)) (h5 : laidGo gl σ r = true) : laidGo gl σ ((g, c) :: r) = true := by
  show (bif Nat.ble (Nat.succ g) gl then (match σ.m.get g with
    | some (.row cells _ true) => bif allFlat c then (bif eqFlats cells c then laidGo gl σ r else false) else false
    | _ => false) else false) = true
  rw [h4, h1]; dsimp only; rw [h2, h3, h5]; rfl
structure LaidK (K : KP) : Prop where
  h0 : ∃ e, K (posOf 0) (.row cells0 e true)
  h1 : ∃ e, K (posOf 1) (.row cells1 e true)
  h4 : ∃ e, K (posOf 4) (.row cells4 e true)
  h5 : ∃ e, K (posOf 5) (.row cells5 e true)
theorem LaidK.laid {K : KP} (h : LaidK K) (σ : AHeap) (L : Own) (hst : St σ K L) : laidGo GC.gl σ GC.laid = true := by
  obtain ⟨⟨e0, h0⟩, ⟨e1, h1⟩, ⟨e4, h4⟩, ⟨e5, h5⟩⟩ := h
  exact laid_step (gl := 6) (by decide) (by kernel_rfl) (by kernel_rfl) (hst.getK h0) (laid_step (by decide) (by kernel_rfl) (by kernel_rfl) (hst.getK h1) (laid_step (by decide) (by kernel_rfl) (by kernel_rfl) (hst.getK h4) (laid_step (by decide) (by kernel_rfl) (by kernel_rfl) (hst.getK h5) rfl)))
theorem get_g0 (E : Nat → TypeId) : (σG 6 laidL E).m.get (posOf 0) = some (.row cells0 (E 0) true) := rfl
theorem get_g1 (E : Nat → TypeId) : (σG 6 laidL E).m.get (posOf 1) = some (.row cells1 (E 1) true) := rfl
theorem get_g4 (E : Nat → TypeId) : (σG 6 laidL E).m.get (posOf 4) = some (.row cells4 (E 4) true) := rfl
theorem get_g5 (E : Nat → TypeId) : (σG 6 laidL E).m.get (posOf 5) = some (.row cells5 (E 5) true) := rfl
section
variable {H : Type} {enc : TypeId × Value → H} {w : World}
theorem lay_args1 (ho : OldW w) (hgl : 6 ≤ w.heap.size) (hl : ∀ x ∈ laidL, LaidIs w x) {F : Nat} {q0 : List Value} {x0 : DataW H × List MemPlace}
    (t0 : DataW.trod enc Tryz.prog w 0 (fun _ => true) true (F + 6) 22 q0 = some x0) :
    ∃ (ρ : Ren) (σ : AHeap) (a0 : AV), Inv ρ σ w ∧ AllRo σ ∧ GR ρ GC ∧ VRs ρ [a0] q0 ∧ HasS (KOf σ) 4 (RG (KOf σ)) ((elemsD x0.1).map toXG) a0 ∧ LaidK (KOf σ) := by
  have hw : ∃ (r : Nat) (c : Array Value) (e : TypeId) (fr : Nat × Nat), w.heap[r]? = some (Obj.cells c e fr) := by
    obtain ⟨c, e, fr, h, _⟩ := hl (0, cells0) (.head _)
    exact ⟨0, c, e, fr, h⟩
  have hi0 := invG ho hgl wfL hl
  have hr0 : AllRo (σG 6 laidL (elemAt w)) := fun b o h => by
    obtain ⟨x, _, _, rfl⟩ := σG_get h
    rfl
  obtain ⟨ρ1, σ1, vs0, i1, r1, l1, d0, v0⟩ := lay hw (F + 6) 22 q0 x0.1 x0.2 t0 _ _ hi0 hr0
  have n1 : ∀ (b : Nat) (o : AObj), σ1.m.get b = some o → b < σ1.next := fun b o h => HasD.fresh i1 h
  obtain ⟨a0, rfl, s0⟩ := hasGs_of n1 (fit_of_trod _ _ _ _ x0.2 t0) d0
  have hget : ∀ (b : Nat) (o : AObj), (σG 6 laidL (elemAt w)).m.get b = some o → KOf σ1 b o := fun b o h => ⟨n1 b o (l1.get b o h), l1.get b o h⟩
  refine ⟨ρ1, σ1, a0, i1, r1, fun g hg => ?_, v0, s0, ⟨⟨_, hget _ _ (get_g0 _)⟩, ⟨_, hget _ _ (get_g1 _)⟩, ⟨_, hget _ _ (get_g4 _)⟩, ⟨_, hget _ _ (get_g5 _)⟩⟩⟩
  exact ⟨_, l1.le _ _ (show ρG w 6 g = some ⟨g, 0, sizeAt w g⟩ from if_pos hg)⟩
end
end Go.Ev
end
