/- Walks and runs: what functions of the program come to, on the evaluator. Without conditions. -/
import Derived.Test.YtgmdncbbcgiomaaWa
import Derived.Test.YtgmdncbbcgiomaaPa
import Derived.Test.YtgmdncbbcgiomaaWb
set_option linter.unusedSectionVars false
set_option linter.unusedVariables false
set_option linter.unusedSimpArgs false
namespace Go.Ev
open Go.Proofs
set_option maxRecDepth 4000
set_option maxHeartbeats 8000000
/-- What lay at first reads as it read. -/
theorem trod_old {H : Type} {enc : TypeId × Value → H} {P : Program} {w w' : World} (hs : ∀ r : Nat, r < w.heap.size → w'.heap[r]? = w.heap[r]?) {fuel : Nat} {t : TypeId} {cs : List Value} {x : DataW H × List MemPlace}
    (h : DataW.trod enc P w 0 (fun _ => true) true fuel t cs = some x) : DataW.trod enc P w' 0 (fun _ => true) true fuel t cs = some x := by
  refine DataW.trod_carry fuel t cs x h fun p hp => ?_
  have hlt := DataW.trod_lt fuel t cs x h p hp
  cases p with
  | cell b off =>
    show w'.cell? ⟨b, off, none⟩ = w.cell? ⟨b, off, none⟩
    unfold World.cell?
    rw [hs b hlt]
  | map b => exact hs b hlt
section
variable [Env] {H : Type} {enc : TypeId × Value → H}
theorem lightcode_calls {w : World} (ho : OldW w) (hw : ∃ (r : Nat) (c : Array Value) (e : TypeId) (fr : Nat × Nat), w.heap[r]? = some (Obj.cells c e fr)) {F : Nat} {c1 : Array Value} {x1 : DataW H × List MemPlace} (n : Int)
    (h1 : DataW.trod enc Try.prog w 0 (fun _ => true) true (F + 4) 38 c1.toList = some x1) :
    Calls Try.prog 34 #[.agg c1, .int .i64 n] w fun e w' => e = .returned (.bool (lightX F n (toXC F x1.1))) ∧ Keeps w w' := by
  obtain ⟨ρ, σ, vss, hi, hr, _, n1, n2, hh⟩ := layPieces (enc := enc) (P := Try.prog) (fuel := F + 4) (lay hw (F + 4)) [(38, c1.toList)] [x1] (by simp [h1]) (fun _ => none) σ0 (inv0 w ho) AllRo.leaf
  obtain ⟨vs1, rfl⟩ := one_of n1
  obtain ⟨d1, v1⟩ := hh 0 _ _ _ rfl rfl rfl
  have C1 := hasC_of (fun b o => HasD.fresh hi) F _ _ (fit_of_trod _ _ _ _ x1.2 h1) d1
  refine (calls_of_ev (args := [.agg vs1, .int .i64 n]) drawnT okG0 hi (gr0 _) hr ?_ (w_LightCode plainG0 (St.of σ) C1 n)).mono fun e w' h => ?_
  · exact VRs.cons (by simp only [VR]; exact ⟨c1, rfl, v1⟩) (VRs.cons (by simp only [VR]) VRs.nil)
  · obtain ⟨v, x, σ', ρ', rfl, hk, hv, rfl, _⟩ := h
    simp only [VR] at hv
    subst hv
    exact ⟨rfl, hk⟩
/-- The cells of codes that lay at first: so many of them, of which so many are light; the next one, perhaps, is not; and which are alike. -/
structure Codes (w : World) (n : Nat) (k : Nat) (dk : Bool) (cls : List Nat) (X : Nat → XC) (F : Nat) (D : Nat → DataW H × List MemPlace) : Prop where
  read : ∀ j, j < n → DataW.trod enc Try.prog w 0 (fun _ => true) true (F + 4) 38 [Env.τ (2 * j), Env.τ (2 * j + 1)] = some (D j)
  of : ∀ j, X j = toXC F (D j).1
  light : ∀ j, j < k → j < n ∧ lightX F 60 (X j) = true
  dark : dk = true → k < n ∧ lightX F 60 (X k) = false
  alike : ∀ i j a b : Nat, cls[i]? = some a → cls[j]? = some b → i < n ∧ j < n ∧ Nat.beq a b = sameX (X i) (X j)
theorem tokAt_iff {i i' : Nat} (h : tokAt i i' = true) : i = 2 * (i / 2) ∧ i' = 2 * (i / 2) + 1 := by
  unfold tokAt at h
  cases h1 : Nat.beq i (Nat.mul 2 (Nat.div i 2)) with
  | false => rw [h1] at h; cases h
  | true =>
    rw [h1] at h
    have e1 : i = 2 * (i / 2) := Nat.eq_of_beq_eq_true h1
    have e2 : i' = i + 1 := Nat.eq_of_beq_eq_true h
    exact ⟨e1, by omega⟩
theorem vr_toks {ρ : Ren} {i i' : Nat} {x : Value} (ht : tokAt i i' = true) (h : VR ρ (.agg [.tok i, .tok i']) x) : x = .agg #[Env.τ (2 * (i / 2)), Env.τ (2 * (i / 2) + 1)] := by
  obtain ⟨e1, e2⟩ := tokAt_iff ht
  simp only [VR] at h
  obtain ⟨ys, rfl, hv⟩ := h
  obtain ⟨y, r, hys, h1, h2⟩ := hv.cons_inv
  obtain ⟨y', r', rfl, h3, h4⟩ := h2.cons_inv
  rw [h4.nil_inv] at hys
  simp only [VR] at h1 h3
  have : ys = #[y, y'] := by rw [← Array.toList_inj]; exact hys
  rw [this, h1.1, h3.1, e2]
  generalize hq : i / 2 = q at e1 e2 ⊢
  rw [e1]
theorem okGP {w : World} (hw : ∃ (r : Nat) (c : Array Value) (e : TypeId) (fr : Nat × Nat), w.heap[r]? = some (Obj.cells c e fr)) (hn0 : Env.n0 = w.heap.size) (hh0 : Env.h0 = w.heap) {n k F : Nat} {dk : Bool} {cls : List Nat} {X : Nat → XC} {D : Nat → DataW H × List MemPlace}
    (hc : Codes (enc := enc) w n k dk cls X F D) : CxOK Try.prog (GP k dk cls) := by
  refine ⟨(fun g h => by cases h), (fun f args v h => by cases h), (fun e h => by cases h), fun f args σ v h ρ w' xs hi hx => ?_⟩
  have ho' : OldW w' := ⟨hi.old.size, hi.old.same⟩
  have hs : ∀ r : Nat, r < w.heap.size → w'.heap[r]? = w.heap[r]? := fun r hr => by
    have := hi.old.same r (by rw [hn0]; exact hr)
    rw [this, hh0]
  have hw' : ∃ (r : Nat) (c : Array Value) (e : TypeId) (fr : Nat × Nat), w'.heap[r]? = some (Obj.cells c e fr) := by
    obtain ⟨r, c, e, fr, h⟩ := hw
    exact ⟨r, c, e, fr, by rw [hs r (Array.getElem?_eq_some_iff.1 h).1]; exact h⟩
  have hrd : ∀ j, j < n → DataW.trod enc Try.prog w' 0 (fun _ => true) true (F + 4) 38 [Env.τ (2 * j), Env.τ (2 * j + 1)] = some (D j) := fun j hj => trod_old hs (hc.read j hj)
  replace h : ktP k dk cls f args σ = some v := h
  unfold ktP at h
  cases h34 : Nat.beq f 34 with
  | true =>
    obtain rfl : f = 34 := Nat.eq_of_beq_eq_true h34
    rw [h34] at h
    simp only [cond_true] at h
    split at h
    · rename_i i i'
      obtain ⟨x, r, hxs, h1, h2⟩ := hx.cons_inv
      obtain ⟨y, r', rfl, h3, h4⟩ := h2.cons_inv
      rw [h4.nil_inv] at hxs
      simp only [VR] at h3
      subst h3
      cases ht : tokAt i i' with
      | false => rw [ht] at h; cases h
      | true =>
        rw [ht] at h
        simp only [cond_true] at h
        have hx1 := vr_toks ht h1
        subst hx1
        obtain rfl : xs = #[.agg #[Env.τ (2 * (i / 2)), Env.τ (2 * (i / 2) + 1)], .int .i64 60] := by rw [← Array.toList_inj]; exact hxs
        cases hk : Nat.ble (Nat.succ (Nat.div i 2)) k with
        | true =>
          rw [hk] at h
          simp only [cond_true, Option.some.injEq] at h
          subst h
          have hlt : i / 2 < k := Nat.le_of_ble_eq_true hk
          obtain ⟨hn, hl⟩ := hc.light _ hlt
          refine (lightcode_calls (enc := enc) ho' hw' (F := F) 60 (hrd _ hn)).mono fun e w'' ⟨he, hk⟩ => ⟨_, ρ, he, ?_, hk.inv hi⟩
          rw [← hc.of, hl]; simp only [VR]
        | false =>
          rw [hk] at h
          simp only [cond_false] at h
          cases hd : dk with
          | false => rw [hd] at h; cases h
          | true =>
            rw [hd] at h
            simp only [cond_true] at h
            cases he : Nat.beq (Nat.div i 2) k with
            | false => rw [he] at h; cases h
            | true =>
              rw [he] at h
              simp only [cond_true, Option.some.injEq] at h
              subst h
              have e : i / 2 = k := Nat.eq_of_beq_eq_true he
              obtain ⟨hn, hl⟩ := hc.dark hd
              refine (lightcode_calls (enc := enc) ho' hw' (F := F) 60 (hrd _ (by rw [e]; exact hn))).mono fun e' w'' ⟨he, hk⟩ => ⟨_, ρ, he, ?_, hk.inv hi⟩
              rw [← hc.of, e, hl]; simp only [VR]
    · cases h
  | false =>
    rw [h34] at h
    simp only [cond_false] at h
    cases h2 : (bif Nat.beq f 38 then true else Nat.beq f 13) with
    | false => rw [h2] at h; cases h
    | true =>
      rw [h2] at h
      simp only [cond_true] at h
      split at h
      · rename_i i i' j j'
        obtain ⟨x, r, hxs, h1, h2'⟩ := hx.cons_inv
        obtain ⟨y, r', rfl, h3, h4⟩ := h2'.cons_inv
        rw [h4.nil_inv] at hxs
        cases ht : tokAt i i' with
        | false => rw [ht] at h; cases h
        | true =>
          cases ht' : tokAt j j' with
          | false => rw [ht, ht'] at h; cases h
          | true =>
            rw [ht, ht'] at h
            simp only [cond_true] at h
            have hx1 := vr_toks ht h1
            have hx2 := vr_toks ht' h3
            subst hx1; subst hx2
            obtain rfl : xs = #[.agg #[Env.τ (2 * (i / 2)), Env.τ (2 * (i / 2) + 1)], .agg #[Env.τ (2 * (j / 2)), Env.τ (2 * (j / 2) + 1)]] := by rw [← Array.toList_inj]; exact hxs
            unfold patB at h
            rw [nth_eq, nth_eq] at h
            split at h
            · rename_i a b ha hb
              cases h
              obtain ⟨hi', hj', hab⟩ := hc.alike _ _ a b ha hb
              have hi' : i / 2 < n := hi'
              have hj' : j / 2 < n := hj'
              have hab : Nat.beq a b = sameX (X (i / 2)) (X (j / 2)) := hab
              have key : ∀ g, (∀ {c1 c2 : Array Value} {x1 x2 : DataW H × List MemPlace}, DataW.trod enc Try.prog w' 0 (fun _ => true) true (F + 4) 38 c1.toList = some x1 → DataW.trod enc Try.prog w' 0 (fun _ => true) true (F + 4) 38 c2.toList = some x2 →
                  Calls Try.prog g #[.agg c1, .agg c2] w' fun e w'' => e = .returned (.bool (sameX (toXC F x1.1) (toXC F x2.1))) ∧ Keeps w' w'') → Calls Try.prog g #[.agg #[Env.τ (2 * (i / 2)), Env.τ (2 * (i / 2) + 1)], .agg #[Env.τ (2 * (j / 2)), Env.τ (2 * (j / 2) + 1)]] w' fun e w'' => ∃ x ρ', e = .returned x ∧ VR ρ' (.bool (Nat.beq a b)) x ∧ Inv ρ' σ w'' ∧ Stp ρ σ w' ρ' σ w'' := fun g hg => by
                refine (hg (hrd _ hi') (hrd _ hj')).mono fun e w'' ⟨he, hk⟩ => ⟨_, ρ, he, ?_, hk.inv hi⟩
                rw [← hc.of, ← hc.of, ← hab]; simp only [VR]
              cases h38 : Nat.beq f 38 with
              | true =>
                obtain rfl : f = 38 := Nat.eq_of_beq_eq_true h38
                exact key 38 fun a b => same_calls ho' hw' a b
              | false =>
                rw [h38] at h2
                obtain rfl : f = 13 := Nat.eq_of_beq_eq_true h2
                exact key 13 fun a b => code_calls ho' hw' a b
            · cases h
      · cases h
end
end Go.Ev

namespace Go.Ev
variable [Env]
open Go.Proofs
noncomputable def GQ (k : Nat) (dk : Bool) (cls : List Nat) : Cx := ⟨0, fun _ => false, fun _ => false, fun _ _ => none, [], [], fun _ _ _ => none, fun f args σ => bif Nat.beq f 11 then hasFast σ args else ktP k dk cls f args σ⟩
theorem okQ_of {k : Nat} {dk : Bool} {cls : List Nat} (h : CxOK Try.prog (GP k dk cls)) : CxOK Try.prog (GQ k dk cls) := by
  refine ⟨(fun g h => by cases h), (fun f args v h => by cases h), (fun e h => by cases h), fun f args σ v hv ρ w' xs hi hx => ?_⟩
  replace hv : (bif Nat.beq f 11 then hasFast σ args else ktP k dk cls f args σ) = some v := hv
  cases h11 : Nat.beq f 11 with
  | true =>
    rw [h11] at hv
    obtain rfl : f = 11 := Nat.eq_of_beq_eq_true h11
    exact hasFast_ktb hv hi hx
  | false =>
    rw [h11] at hv
    exact h.ktb f args σ v hv ρ w' xs hi hx
end Go.Ev

namespace Go.Ev.Q
open Go.Ev
open Go.Proofs
set_option maxRecDepth 8000
set_option maxHeartbeats 8000000
/-- The kernel's runs that a law of codes alone needs. -/
structure Runs [Env] (f : Nat) : Prop where
  pat : ∀ cls ∈ patsL, ∀ c e, saysTrue (evalF Try.prog (GQ cls.length false cls) 2000 f [.slice 0 0 cls.length (.known c)] (σT (toks cls.length []) e)) = true
  dark : ∀ k, k < 6 → ∀ m c e, saysTrue (evalF Try.prog (GQ k true []) 2000 f [.slice 0 0 (m + (k + 1)) (.known c)] (σT (toks (k + 1) []) e)) = true
  five : ∀ c e, saysTrue (evalF Try.prog (GQ 5 false []) 2000 f [.slice 0 0 5 (.known c)] (σT (toks 5 []) e)) = true
  six : ∀ c e, saysTrue (evalF Try.prog (GQ 6 false []) 2000 f [.slice 0 0 6 (.known c)] (σT (toks 6 []) e)) = true
  long : ∀ m c e, saysTrue (evalF Try.prog (GQ 6 false []) 2000 f [.slice 0 0 (m + 7) (.known c)] (σT (toks 6 []) e)) = true
  zero : ∀ c e, saysTrue (evalF Try.prog (GQ 0 false []) 2000 f [.slice 0 0 0 c] (σT [] e)) = true
  nil : saysTrue (evalF Try.prog (GQ 0 false []) 2000 f [.nilSlice] σ0) = true
theorem toks_eq : ∀ (n : Nat) (r : List AV), toks n r = (List.range (2 * n)).map .tok ++ r
  | 0, r => rfl
  | n + 1, r => by
    rw [show toks (n + 1) r = toks n (.tok (2 * n) :: .tok (2 * n + 1) :: r) from rfl, toks_eq n, show 2 * (n + 1) = 2 * n + 1 + 1 by omega, List.range_succ, List.range_succ]
    simp
theorem toks_get {n i : Nat} {v : AV} (h : (toks n [])[i]? = some v) : i < 2 * n ∧ v = .tok i := by
  rw [toks_eq, List.append_nil, List.getElem?_map, Option.map_eq_some_iff] at h
  obtain ⟨a, ha, rfl⟩ := h
  have hlt : i < 2 * n := by
    have := (List.getElem?_eq_some_iff.1 ha).1
    rwa [List.length_range] at this
  rw [List.getElem?_range hlt] at ha
  cases ha
  exact ⟨hlt, rfl⟩
theorem toks_length (n : Nat) : (toks n []).length = 2 * n := by rw [toks_eq]; simp
section
variable [Env] {H : Type} {enc : TypeId × Value → H}
theorem grGP {k : Nat} {dk : Bool} {cls : List Nat} (ρ : Ren) : GR ρ (GQ k dk cls) := fun g h => absurd h (Nat.not_lt_zero _)
/-- A run's worth. -/
theorem run_calls {w : World} (hn0 : Env.n0 = w.heap.size) (hh0 : Env.h0 = w.heap) {a : Addr} {c : Array Value} {e : TypeId} {fr : Nat × Nat} (hb : w.heap[a.block]? = some (.cells c e fr)) (hs : a.spot = none) {n k F len cap f m : Nat} {dk : Bool} {cls : List Nat} {X : Nat → XC} {D : Nat → DataW H × List MemPlace}
    (hc : Codes (enc := enc) w n k dk cls X F D) (hm : ∀ i, i < 2 * m → c[a.off + i]? = some (Env.τ i) ∧ (Env.τ i).oneCell' = true) (ha : a.off ≤ c.size)
    (hr : ∀ e, saysTrue (evalF Try.prog (GQ k dk cls) 2000 f [.slice 0 0 len (.known cap)] (σT (toks m []) e)) = true) :
    Calls Try.prog f #[.slice (some a) len cap] w fun e w' => e = .returned (.bool true) ∧ Keeps w w' := by
  have ho : OldW w := ⟨by rw [hn0]; exact Nat.le_refl _, fun r _ => by rw [hh0]⟩
  have hsz : a.off + 2 * m ≤ c.size := by
    by_cases h0 : m = 0
    · subst h0; omega
    · have := (Array.getElem?_eq_some_iff.1 (hm (2 * m - 1) (by omega)).1).1
      omega
  have hobj : ObjR (fun _ => none) ⟨a.block, a.off, c.size - a.off⟩ (.row (toks m []) e true) (.cells c e fr) := by
    refine ⟨c, fr, rfl, by show c.size = a.off + (c.size - a.off); omega, by rw [toks_length]; show 2 * m ≤ c.size - a.off; omega, fun i v hv => ?_, fun h => by cases h⟩
    obtain ⟨hi, rfl⟩ := toks_get hv
    obtain ⟨h1, h2⟩ := hm i hi
    exact ⟨_, h1, by simp only [VR]; exact ⟨trivial, h2⟩⟩
  obtain ⟨i1, r1, _⟩ := (inv0 w ho).layRo AllRo.leaf hb hobj rfl
  have h := hr e
  rw [evalF_eq] at h
  obtain ⟨σ', h⟩ := saysTrue_ret h
  refine evalCall_sound drawnT (okQ_of (okGP ⟨_, c, e, fr, hb⟩ hn0 hh0 hc)) h i1 (grGP _) (VRs.cons ?_ VRs.nil) fun ρ' w' x _ st hv => ?_
  · simp only [VR]
    refine ⟨_, Ren.with_same _ _ _, ?_⟩
    obtain ⟨ab, ao, sp⟩ := a
    dsimp only at hs ⊢
    subst hs
    rfl
  · simp only [VR] at hv
    exact ⟨by rw [hv], Keeps.of_ro st r1⟩
end
/-- The first cell of codes is an integer, the second one a slice. -/
theorem code_cells [Env] {H : Type} {enc : TypeId × Value → H} {w : World} {F : Nat} {cs : List Value} {x : DataW H × List MemPlace} (h : DataW.trod enc Try.prog w 0 (fun _ => true) true (F + 4) 38 cs = some x) : ∃ u v, cs = [u, v] ∧ u.oneCell' = true ∧ v.oneCell' = true := by
  unfold DataW.trod at h
  rw [Try.underlying38] at h
  dsimp only at h
  split at h
  · rename_i hl
    have hl : cs.length = 2 := hl.trans (by kernel_rfl)
    obtain ⟨u, v, rfl⟩ := two_of hl
    obtain ⟨xs, hxs, _⟩ := Option.map_eq_some_iff.1 h
    obtain ⟨k1, k2⟩ := mapM_all hxs
    obtain ⟨y0, _, h0⟩ := k2 0 _ rfl
    obtain ⟨y1, _, h1⟩ := k2 1 _ rfl
    have h0 : DataW.trod enc Try.prog w 0 (fun _ => true) true (F + 3) 3 (([u, v].drop 0).take (Try.prog.cellsOf 3)) = some y0 := h0
    have h1 : DataW.trod enc Try.prog w 0 (fun _ => true) true (F + 3) 36 (([u, v].drop 1).take (Try.prog.cellsOf 36)) = some y1 := h1
    rw [show Try.prog.cellsOf 3 = 1 by kernel_rfl] at h0
    rw [show Try.prog.cellsOf 36 = 1 by kernel_rfl] at h1
    have h0 : DataW.trod enc Try.prog w 0 (fun _ => true) true (F + 3) 3 [u] = some y0 := h0
    have h1 : DataW.trod enc Try.prog w 0 (fun _ => true) true (F + 3) 36 [v] = some y1 := h1
    refine ⟨u, v, rfl, ?_, ?_⟩
    · unfold DataW.trod at h0
      rw [Try.underlying3] at h0
      cases u <;> first | rfl | (simp at h0; done)
    · unfold DataW.trod at h1
      rw [Try.underlying36] at h1
      cases v <;> first | rfl | (simp at h1; done)
  · cases h
/-- A slice of codes that is read: nil, or in a block. -/
theorem codes_value {w : World} {base : Nat} {v : Value} (hok : Value.okWide Try.prog w .any base 22 v) : v = .slice none 0 0 ∨ ∃ a len cap c e fr, v = .slice (some a) len cap ∧ w.heap[a.block]? = some (.cells c e fr) ∧ a.spot = none := by
  unfold Value.okWide at hok
  rw [Try.underlying22] at hok
  dsimp only at hok
  unfold Cell.okWide at hok
  rw [Try.underlying22] at hok
  unfold Cell.ok at hok
  rw [Try.underlying22] at hok
  cases v with
  | slice a len cap =>
    cases a with
    | none =>
      dsimp only at hok
      split at hok <;> first | (rename_i he; cases he; done) | skip
      all_goals first
        | (rename_i he; cases he; exact .inl rfl)
        | (rename_i h1 h2; cases h2; done)
        | exact hok.elim
    | some a =>
      obtain ⟨_, _, _, hsp, row, cells, hsh, _⟩ := hok
      unfold World.shape? at hsh
      split at hsh
      · rename_i c e fr hh
        exact .inr ⟨a, len, cap, c, e, fr, rfl, hh, hsp⟩
      · cases hsh
  | _ => exact hok.elim
theorem okNoneP [Env] : CxOK Try.prog (GP 0 false []) := by
  refine ⟨(fun g h => by cases h), (fun f args v h => by cases h), (fun e h => by cases h), fun f args σ v h => ?_⟩
  replace h : ktP 0 false [] f args σ = some v := h
  exfalso
  unfold ktP at h
  cases h34 : Nat.beq f 34 with
  | true =>
    rw [h34] at h
    simp only [cond_true] at h
    split at h
    · rename_i i i'
      cases ht : tokAt i i' with
      | false => rw [ht] at h; cases h
      | true => rw [ht] at h; cases h
    · cases h
  | false =>
    rw [h34] at h
    simp only [cond_false] at h
    cases h2 : (bif Nat.beq f 38 then true else Nat.beq f 13) with
    | false => rw [h2] at h; cases h
    | true =>
      rw [h2] at h
      simp only [cond_true] at h
      split at h
      · rename_i i i' j j'
        cases ht : (bif tokAt i i' then tokAt j j' else false) with
        | false => rw [ht] at h; cases h
        | true => rw [ht] at h; cases h
      · cases h
theorem okNone [Env] : CxOK Try.prog (GQ 0 false []) := okQ_of okNoneP
theorem of_not_false {b : Bool} (h : ¬ b = false) : b = true := by cases b <;> simp_all
theorem least {p : Nat → Prop} : ∀ (n : Nat), p n → ∃ m, p m ∧ m ≤ n ∧ ∀ j, j < m → ¬ p j := by
  intro n
  induction n using Nat.strongRecOn with
  | _ n ih =>
    intro h
    by_cases hh : ∃ j, j < n ∧ p j
    · obtain ⟨j, hj, hp⟩ := hh
      obtain ⟨m, h1, h2, h3⟩ := ih j hj hp
      exact ⟨m, h1, by omega, h3⟩
    · exact ⟨n, h, Nat.le_refl _, fun j hj hp => hh ⟨j, hj, hp⟩⟩
/-- What the runs say of the law, whatever the codes. -/
theorem law_of_runs {f : Nat} (hR : ∀ [Env], Runs f) {H : Type} {enc : TypeId × Value → H} {w : World} {v : Value} {F base : Nat} {x : DataW H × List MemPlace}
    (h : DataW.trod enc Try.prog w 0 (fun _ => true) true (F + 5) 22 [v] = some x) (hok : Value.okWide Try.prog w .any base 22 v) : Calls Try.prog f #[v] w fun e w' => e = .returned (.bool true) ∧ Keeps w w' := by
  rcases codes_value hok with rfl | ⟨a, len, cap, c, e, fr, rfl, hb, hs⟩
  · letI : Env := ⟨fun _ => .bool false, w.heap.size, w.heap⟩
    have ho : OldW w := ⟨Nat.le_refl _, fun _ _ => rfl⟩
    have h := (hR).nil
    rw [evalF_eq] at h
    obtain ⟨σ', h⟩ := saysTrue_ret h
    refine evalCall_sound drawnT okNone h (inv0 w ho) (grGP _) (VRs.cons (by simp only [VR]) VRs.nil) fun ρ' w' x _ st hv => ?_
    simp only [VR] at hv
    exact ⟨by rw [hv], Keeps.of_ro st AllRo.leaf⟩
  · letI : Env := ⟨fun j => c.getD (a.off + j) (.bool false), w.heap.size, w.heap⟩
    have ho : OldW w := ⟨Nat.le_refl _, fun _ _ => rfl⟩
    have c38 : Try.prog.cellsOf 38 = 2 := by kernel_rfl
    -- the elements
    have hel : (∀ i, i < len → ∃ cs y, w.cells? 0 (a.add (i * 2)) 2 = some cs ∧ DataW.trod enc Try.prog w 0 (fun _ => true) true (F + 4) 38 cs = some y) ∧ (len < cap → ∃ cs, w.cells? 0 (a.add (len * 2)) 2 = some cs) := by
      unfold DataW.trod at h
      rw [Try.underlying22] at h
      dsimp only at h
      rw [if_pos rfl, c38] at h
      split at h
      · obtain ⟨elems, he1, hr⟩ := Option.bind_eq_some_iff.1 h
        obtain ⟨rest, he2, _⟩ := Option.map_eq_some_iff.1 hr
        refine ⟨fun i hi => ?_, fun hlt => ?_⟩
        · obtain ⟨y, _, hy⟩ := (mapM_all he1).2 i i (by rw [List.getElem?_range hi])
          obtain ⟨cs, k1, k2⟩ := Option.bind_eq_some_iff.1 hy
          exact ⟨cs, y, k1, k2⟩
        · obtain ⟨y, _, hy⟩ := (mapM_all he2).2 0 0 (by rw [List.getElem?_range (by omega)])
          obtain ⟨cs, k1, _⟩ := Option.bind_eq_some_iff.1 hy
          exact ⟨cs, k1⟩
      · cases h
    have hcell : ∀ i cs, w.cells? 0 (a.add (i * 2)) 2 = some cs → a.off + i * 2 + 2 ≤ c.size ∧ cs = (c.toList.drop (a.off + i * 2)).take 2 := fun i cs hcs => by
      obtain ⟨c2, e2, fr2, k1, k2, k3, k4⟩ := cells_read hcs (by decide)
      have q := Addr.add_eq a (i * 2) hs
      rw [q] at k1 k3 k4
      dsimp only at k1 k3 k4
      rw [hb] at k1
      cases k1
      exact ⟨k3, k4⟩
    have hel2 : ∀ i, i < len → ∃ y, DataW.trod enc Try.prog w 0 (fun _ => true) true (F + 4) 38 [Env.τ (2 * i), Env.τ (2 * i + 1)] = some y ∧ c[a.off + 2 * i]? = some (Env.τ (2 * i)) ∧ c[a.off + (2 * i + 1)]? = some (Env.τ (2 * i + 1)) ∧ (Env.τ (2 * i)).oneCell' = true ∧ (Env.τ (2 * i + 1)).oneCell' = true := fun i hi => by
      obtain ⟨cs, y, h1, h2⟩ := hel.1 i hi
      obtain ⟨h3, h4⟩ := hcell i cs h1
      obtain ⟨u, v, rfl, h5, h6⟩ := code_cells h2
      have g0 : c[a.off + 2 * i]? = some u := by
        have : ((c.toList.drop (a.off + i * 2)).take 2)[0]? = some u := by rw [← h4]; rfl
        rw [List.getElem?_take, if_pos (by decide), List.getElem?_drop, Array.getElem?_toList] at this
        rw [show a.off + 2 * i = a.off + i * 2 + 0 by omega]; exact this
      have g1 : c[a.off + (2 * i + 1)]? = some v := by
        have : ((c.toList.drop (a.off + i * 2)).take 2)[1]? = some v := by rw [← h4]; rfl
        rw [List.getElem?_take, if_pos (by decide), List.getElem?_drop, Array.getElem?_toList] at this
        rw [show a.off + (2 * i + 1) = a.off + i * 2 + 1 by omega]; exact this
      have e0 : (Env.τ (2 * i) : Value) = u := by show c.getD (a.off + 2 * i) _ = u; rw [Array.getD_eq_getD_getElem?, g0]; rfl
      have e1 : (Env.τ (2 * i + 1) : Value) = v := by show c.getD (a.off + (2 * i + 1)) _ = v; rw [Array.getD_eq_getD_getElem?, g1]; rfl
      rw [e0, e1]
      exact ⟨y, h2, g0, g1, h5, h6⟩
    have hm : ∀ m, m ≤ len → ∀ i, i < 2 * m → c[a.off + i]? = some (Env.τ i) ∧ (Env.τ i : Value).oneCell' = true := fun m hml i hi => by
      obtain ⟨y, _, g0, g1, o0, o1⟩ := hel2 (i / 2) (by omega)
      rcases Nat.mod_two_eq_zero_or_one i with hmod | hmod
      · have e : i = 2 * (i / 2) := by omega
        rw [e]; exact ⟨g0, o0⟩
      · have e : i = 2 * (i / 2) + 1 := by omega
        rw [e]; exact ⟨g1, o1⟩
    -- the data
    let D : Nat → DataW H × List MemPlace := fun i => (DataW.trod enc Try.prog w 0 (fun _ => true) true (F + 4) 38 [Env.τ (2 * i), Env.τ (2 * i + 1)]).getD (.nil, [])
    have hread : ∀ i, i < len → DataW.trod enc Try.prog w 0 (fun _ => true) true (F + 4) 38 [Env.τ (2 * i), Env.τ (2 * i + 1)] = some (D i) := fun i hi => by
      obtain ⟨y, h1, _⟩ := hel2 i hi
      show _ = some ((DataW.trod enc Try.prog w 0 (fun _ => true) true (F + 4) 38 [Env.τ (2 * i), Env.τ (2 * i + 1)]).getD (.nil, []))
      rw [h1]; rfl
    let X : Nat → XC := fun i => toXC F (D i).1
    by_cases h0 : len = 0
    · subst h0
      by_cases hc0 : cap = 0
      · subst hc0
        have hobj : ObjR (fun _ => none) ⟨a.block, 0, c.size⟩ (.row [] e true) (.cells c e fr) := ⟨c, fr, rfl, (Nat.zero_add _).symm, Nat.zero_le _, fun i v hv => by simp at hv, fun h => by cases h⟩
        obtain ⟨i1, r1, _⟩ := (inv0 w ho).layRo AllRo.leaf hb hobj rfl
        have h := (hR).zero (.upto 2) e
        rw [evalF_eq] at h
        obtain ⟨σ', h⟩ := saysTrue_ret h
        refine evalCall_sound drawnT okNone h i1 (grGP _) (VRs.cons ?_ VRs.nil) fun ρ' w' x _ st hv => ?_
        · simp only [VR]
          exact ⟨_, Ren.with_same _ _ _, .inr ⟨trivial, a, rfl⟩⟩
        · simp only [VR] at hv
          exact ⟨by rw [hv], Keeps.of_ro st r1⟩
      · obtain ⟨cs, hcs⟩ := hel.2 (by omega)
        have := (hcell 0 cs hcs).1
        exact run_calls (enc := enc) (k := 0) (dk := false) (cls := []) (n := 0) (m := 0) (F := F) (X := X) (D := D) rfl rfl hb hs ⟨fun j hj => absurd hj (Nat.not_lt_zero _), fun _ => rfl, fun j hj => absurd hj (Nat.not_lt_zero _), (fun h => by cases h), (fun i j a b h => by simp at h)⟩ (fun i hi => absurd hi (by omega)) (by omega) fun e => (hR).zero _ e
    · have ha : a.off ≤ c.size := by
        obtain ⟨cs, y, h1, _⟩ := hel.1 0 (by omega)
        have := (hcell 0 cs h1).1
        omega
      by_cases hall : ∀ j, j < len → j < 6 → lightX F 60 (X j) = true
      · have hC : ∀ k, k ≤ len → k ≤ 6 → Codes (enc := enc) w len k false [] X F D := fun k hk hk6 => ⟨hread, fun _ => rfl, fun j hj => ⟨by omega, hall j (by omega) (by omega)⟩, (fun h => by cases h), (fun i j a b h => by simp at h)⟩
        by_cases h4 : len ≤ 4
        · let fst : Nat → Nat := fun i => (List.range len).findIdx fun j => sameX (X j) (X i)
          have hfst : ∀ i, i < len → fst i < len ∧ sameX (X (fst i)) (X i) = true ∧ fst i ≤ i := fun i hi => by
            have hlt : fst i < (List.range len).length := List.findIdx_lt_length_of_exists ⟨i, List.mem_range.2 hi, sameX_iff.2 rfl⟩
            have h1 := List.findIdx_getElem (w := hlt)
            simp only [List.getElem_range] at h1
            rw [List.length_range] at hlt
            refine ⟨hlt, h1, Nat.le_of_not_lt fun hh => ?_⟩
            have := List.not_of_lt_findIdx hh
            simp only [List.getElem_range] at this
            rw [sameX_no] at this
            exact this rfl
          have hcongr : ∀ i j, X i = X j → fst i = fst j := fun i j e => by
            show (List.range len).findIdx _ = (List.range len).findIdx _
            rw [e]
          let cls := (List.range len).map fst
          have hget : ∀ i a, cls[i]? = some a → i < len ∧ a = fst i := fun i a h => by
            rw [List.getElem?_map, Option.map_eq_some_iff] at h
            obtain ⟨b, hb', rfl⟩ := h
            have hlt : i < len := by have := (List.getElem?_eq_some_iff.1 hb').1; rwa [List.length_range] at this
            rw [List.getElem?_range hlt] at hb'
            cases hb'
            exact ⟨hlt, rfl⟩
          have hlen : cls.length = len := by rw [List.length_map, List.length_range]
          have hmem : cls ∈ patsL := pats_of cls (by omega) fun i a h => by
            obtain ⟨hi, rfl⟩ := hget i a h
            obtain ⟨h1, h2, h3⟩ := hfst i hi
            refine ⟨h3, ?_⟩
            rw [List.getElem?_map, List.getElem?_range h1]
            exact congrArg some (hcongr _ _ (sameX_iff.1 h2))
          have hCp : Codes (enc := enc) w len len false cls X F D := ⟨hread, fun _ => rfl, fun j hj => ⟨hj, hall j hj (by omega)⟩, (fun h => by cases h), fun i j a b h1 h2 => by
            obtain ⟨hi, rfl⟩ := hget i a h1
            obtain ⟨hj, rfl⟩ := hget j b h2
            refine ⟨hi, hj, ?_⟩
            rw [Bool.eq_iff_iff, Nat.beq_eq, sameX_iff]
            refine ⟨fun e => ?_, hcongr i j⟩
            have e1 := sameX_iff.1 (hfst i hi).2.1
            have e2 := sameX_iff.1 (hfst j hj).2.1
            rw [← e1, ← e2, e]⟩
          have hrun := fun e => (hR).pat cls hmem cap e
          rw [hlen] at hrun
          exact run_calls rfl rfl hb hs hCp (hm len (Nat.le_refl _)) ha hrun
        · by_cases h5 : len = 5
          · subst h5
            exact run_calls rfl rfl hb hs (hC 5 (by omega) (by omega)) (hm 5 (by omega)) ha fun e => (hR).five cap e
          · by_cases h6 : len = 6
            · subst h6
              exact run_calls rfl rfl hb hs (hC 6 (by omega) (by omega)) (hm 6 (by omega)) ha fun e => (hR).six cap e
            · obtain ⟨m, rfl⟩ : ∃ m, len = m + 7 := ⟨len - 7, by omega⟩
              exact run_calls rfl rfl hb hs (hC 6 (by omega) (by omega)) (hm 6 (by omega)) ha fun e => (hR).long m cap e
      · obtain ⟨j, hj⟩ : ∃ j, j < len ∧ j < 6 ∧ lightX F 60 (X j) = false := by
          refine Classical.byContradiction fun hno => hall fun j h1 h2 => ?_
          cases hl : lightX F 60 (X j) with
          | true => rfl
          | false => exact absurd ⟨j, h1, h2, hl⟩ hno
        obtain ⟨k, ⟨k1, k2, k3⟩, _, k4⟩ := least (p := fun j => j < len ∧ j < 6 ∧ lightX F 60 (X j) = false) j hj
        obtain ⟨m, rfl⟩ : ∃ m, len = m + (k + 1) := ⟨len - (k + 1), by omega⟩
        exact run_calls (enc := enc) (k := k) (dk := true) (cls := []) (F := F) (X := X) (D := D) rfl rfl hb hs ⟨hread, fun _ => rfl, fun j hj => ⟨by omega, of_not_false fun hl => k4 j hj ⟨by omega, by omega, hl⟩⟩, fun _ => ⟨by omega, k3⟩, (fun i j a b h => by simp at h)⟩ (hm (k + 1) (by omega)) ha fun e => (hR).dark k k2 m cap e
end Go.Ev.Q

