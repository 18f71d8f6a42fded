/- An evaluator of the model's code over heaps whose blocks may lie anywhere, third part: an answer of the evaluator is the machine's, whatever world the call begins in. Without conditions. -/
import Derived.Test.YtgmdncbbcgiomaaEb
import Derived.OrdersIn
import Derived.Sort.LoopGhostIn
import Derived.Scope
import Derived.ProofKit
import Derived.LaidSub
set_option linter.unusedSectionVars false
set_option linter.unusedVariables false
set_option linter.unusedSimpArgs false
/- Regions that draw their order: what the plan's checks say. -/
namespace Go.Ev
variable [Env]

/-! Reads stay where what they look at stays. -/
theorem place_mono {P : Program} {σ σ' : AHeap} (he : ∀ (b : Pos) (o : AObj), σ.m.get b = some o → σ'.m.get b = some o) {u : Option TypeId} {x : Option AV} {v : AV} (h : placeA P u σ x = some v) : placeA P u σ' x = some v := by
 unfold placeA at h ⊢
 cases x with
 | none => cases h
 | some xv =>
  cases xv with
  | ptr b off =>
   dsimp only at h ⊢
   cases hb : σ.m.get b with
   | none => rw [hb] at h; cases h
   | some o => rw [hb] at h; rw [he b o hb]; exact h
  | _ => cases h
theorem readA_ext {P : Program} {ev : Operand → Option AV} {σ σ' : AHeap} {op : Op} {v : AV} (he : ∀ b o, σ.m.get b = some o → σ'.m.get b = some o) (h : readA P ev σ op = some v) : readA P ev σ' op = some v := by
 cases op with
 | load t x =>
  simp only [readA] at h ⊢
  cases hx : ev x with
  | none => rw [hx] at h; cases h
  | some u =>
   rw [hx] at h
   cases u with
   | ptr b off =>
    dsimp only at h ⊢
    cases hb : σ.m.get b with
    | none => rw [hb] at h; cases h
    | some o => rw [hb] at h; rw [he b o hb]; exact h
   | _ => cases h
 | lookup t x i ok =>
  simp only [readA] at h ⊢
  split at h
  ·rename_i kt et k hu hik
   cases hx : ev x with
   | none => rw [hx] at h; dsimp only at h; rw [ite_cond] at h; split at h <;> cases h
   | some u =>
    rw [hx] at h
    cases u with
    | nilMap => simpa only [hu, hik] using h
    | map b =>
     dsimp only at h ⊢
     cases hb : σ.m.get b with
     | none => rw [hb] at h; dsimp only at h; rw [ite_cond] at h; split at h <;> cases h
     | some o => rw [hb] at h; rw [he b o hb]; simpa only [hu, hik] using h
    | _ => dsimp only at h; rw [ite_cond] at h; split at h <;> cases h
  ·cases h
 | call c =>
  simp only [readA] at h ⊢
  split at h
  ·rename_i hcal
   split at h
   ·rename_i u1 u2 t x e1 e2
    split at h
    ·rename_i u3 u4 kt et b hu hx
     cases hb : σ.m.get b with
     | none => rw [hb] at h; cases h
     | some o => rw [hb] at h; rw [he b o hb]; exact h
    ·exact h
    ·cases h
   ·cases h
  ·cases h
 | convert src dst x =>
  simp only [readA] at h ⊢
  split at h
  ·rename_i e hs hd
   split at h
   ·rename_i h1 h2; exact h
   ·rename_i b off len cap h1 h2
    rw [ite_cond] at h ⊢
    split at h
    ·rename_i hc; rw [if_pos hc]; exact h
    ·rename_i hc
     rw [if_neg hc]
     cases hb : σ.m.get b with
     | none => rw [hb] at h; cases h
     | some o => rw [hb] at h; rw [he b o hb]; exact h
   ·cases h
  ·split at h
   ·rw [ite_cond] at h ⊢
    split at h
    ·cases h
    ·rename_i hc; rw [if_neg hc]; exact place_mono he h
   ·cases h
  ·rw [ite_cond] at h ⊢
   split at h
   ·rename_i hc; rw [if_pos hc]; exact place_mono he h
   ·cases h
  ·cases h
 | _ => exact h

/-! The checks. -/
theorem waits_iff {ops : Array Oper} {i j : Nat} : waits ops i j = true ↔ ∃ o, ops[i]? = some o ∧ ∃ e ∈ o.after, Region.binds .any e = true ∧ e.on = j := by
 unfold waits
 cases h : ops[i]? with
 | none => simp
 | some o =>
  simp only [Option.map_some, Option.getD_some, Option.some.injEq, exists_eq_left', Bool.and_eq_true, beq_iff_eq, Array.any_iff_exists]
  constructor
  ·rintro ⟨q, hq, _, _, h1⟩; exact ⟨_, Array.getElem_mem hq, h1⟩
  ·rintro ⟨e, he, h1⟩
   obtain ⟨q, hq, rfl⟩ := Array.getElem_of_mem he
   exact ⟨q, hq, Nat.zero_le _, hq, h1⟩

structure Shape (P : Program) (ops : Array Oper) (A : Array Nat) : Prop where
 dep : ∀ i j, waits ops i j = true → j < ops.size
 anc : ∀ i j, i < ops.size → j < ops.size → anc A i j = true → waits ops i j = true ∨ ∃ d, waits ops i d = true ∧ Ev.anc A d j = true
 uniq : ∀ i j k, dstOf ops i = some k → dstOf ops j = some k → i = j
 look : ∀ (i : Nat) (o : Oper) (j k : Nat), ops[i]? = some o → dstOf ops j = some k → k ∈ slotsOf ops o → Ev.anc A i j = true ∨ (looksMem P ops i = false ∧ (j = i ∨ Ev.anc A j i = true))
 dst : ∀ (i : Nat) (o : Oper), ops[i]? = some o → looksMem P ops i = true → ∃ k, o.dst = some k

theorem dstOf_lt {ops : Array Oper} {i k : Nat} (h : dstOf ops i = some k) : i < ops.size := by
 unfold dstOf at h
 cases ho : ops[i]? with
 | none => rw [ho] at h; cases h
 | some o => exact (Array.getElem?_eq_some_iff.1 ho).1
theorem dstOf_eq {ops : Array Oper} {i : Nat} {o : Oper} (h : ops[i]? = some o) : dstOf ops i = o.dst := by simp [dstOf, h]

/-! Sets of numbers. -/
theorem hasB_eq (m i : Nat) : hasB m i = m.testBit i := by
 rw [Nat.testBit_eq_decide_div_mod_eq]
 show Nat.beq ((m >>> i) &&& 1) 1 = _
 rw [Nat.and_one_is_mod, Nat.shiftRight_eq_div_pow]
 cases h : Nat.beq (m / 2 ^ i % 2) 1 with
 | true => exact (decide_eq_true (Nat.eq_of_beq_eq_true h)).symm
 | false => exact (decide_eq_false (fun e => by rw [e] at h; cases h)).symm
theorem low_eq (w : Nat) : Nat.beq (Nat.land w 1) 1 = w.testBit 0 := by
 have := hasB_eq w 0
 exact this
theorem bit_testBit (i j : Nat) : (bit i).testBit j = decide (i = j) := by
 show (1 <<< i).testBit j = _
 rw [Nat.one_shiftLeft, Nat.testBit_two_pow]
theorem lor_testBit (m k j : Nat) : (Nat.lor m k).testBit j = (m.testBit j || k.testBit j) := Nat.testBit_or m k j
theorem mem_maskOf {j : Nat} : ∀ {l : List Nat}, (maskOf l).testBit j = true ↔ j ∈ l
 | [] => by simp [maskOf]
 | i :: l => by
  show (Nat.lor (bit i) (maskOf l)).testBit j = true ↔ _
  rw [lor_testBit, bit_testBit, Bool.or_eq_true, mem_maskOf, List.mem_cons, decide_eq_true_eq]
  exact ⟨fun h => h.imp Eq.symm id, fun h => h.imp Eq.symm id⟩
theorem subB_true {m k : Nat} (h : subB m k = true) (j : Nat) (hj : m.testBit j = true) : k.testBit j = true := by
 have e : m &&& k = m := Nat.eq_of_beq_eq_true h
 rw [← e, Nat.testBit_and, Bool.and_eq_true] at hj
 exact hj.2
theorem subB_false {m k : Nat} (h : subB m k = false) : ∃ j, m.testBit j = true ∧ k.testBit j = false := by
 apply Classical.byContradiction
 intro hn
 have e : m &&& k = m := Nat.eq_of_testBit_eq fun j => by
  rw [Nat.testBit_and]
  cases hm : m.testBit j with
  | false => rfl
  | true =>
   cases hk : k.testBit j with
   | true => rfl
   | false => exact absurd ⟨j, hm, hk⟩ hn
 have : subB m k = true := by
  show Nat.beq (m &&& k) m = true
  rw [e]; exact Nat.beq_refl m
 rw [this] at h; cases h
theorem orAll_testBit {j : Nat} : ∀ {L : List RA} {w : Nat}, (orAll L w).testBit j = true → ∃ d x, L[d]? = some x ∧ w.testBit d = true ∧ x.a.testBit j = true
 | [], w, h => by simp [orAll] at h
 | x :: L, w, h => by
  have h' : (Nat.lor (@Bool.rec (fun _ => Nat) 0 x.a (Nat.beq (Nat.land w 1) 1)) (orAll L (w >>> 1))).testBit j = true := h
  rw [lor_testBit, Bool.or_eq_true, low_eq] at h'
  rcases h' with h' | h'
  ·cases hw : w.testBit 0 with
   | true => rw [hw] at h'; exact ⟨0, x, rfl, hw, h'⟩
   | false =>
    rw [hw] at h'
    have h'' : (0 : Nat).testBit j = true := h'
    simp at h''
  ·obtain ⟨d, y, h1, h2, h3⟩ := orAll_testBit h'
   rw [Nat.testBit_shiftRight] at h2
   exact ⟨d + 1, y, by simpa using h1, by rw [Nat.add_comm]; exact h2, h3⟩
theorem rasGo_rows : ∀ (rows : List Row) (L : List RA), (rasGo rows L).map (·.r) = L.map (·.r) ++ rows
 | [], L => by show L.map (·.r) = _; simp
 | r :: rows, L => by
  show (rasGo rows (appN L [⟨r, Nat.lor r.w (orAll L r.w)⟩])).map (·.r) = _
  rw [rasGo_rows rows, appN_eq]
  simp
theorem ras_at {P : Program} {ops : Array Oper} {i : Nat} {o : Oper} (h : ops[i]? = some o) : ∃ x, (rasOf P ops)[i]? = some x ∧ x.r = rowF P ops o := by
 have e := rasGo_rows (mapN (rowF P ops) ops.toList) []
 rw [mapN_eq] at e
 have e' : ((rasOf P ops).map (·.r))[i]? = some (rowF P ops o) := by
  unfold rasOf
  rw [mapN_eq, e]
  simp [h]
 rw [List.getElem?_map] at e'
 cases hx : (rasOf P ops)[i]? with
 | none => rw [hx] at e'; cases e'
 | some x => rw [hx] at e'; exact ⟨x, rfl, by simpa using e'⟩
theorem ras_to {P : Program} {ops : Array Oper} {i : Nat} {x : RA} (h : (rasOf P ops)[i]? = some x) : ∃ o, ops[i]? = some o ∧ x.r = rowF P ops o := by
 have e := rasGo_rows (mapN (rowF P ops) ops.toList) []
 rw [mapN_eq] at e
 have e' : ((rasOf P ops).map (·.r))[i]? = ops[i]?.map (rowF P ops) := by
  unfold rasOf
  rw [mapN_eq, e]
  simp
 rw [List.getElem?_map, h] at e'
 cases ho : ops[i]? with
 | none => rw [ho] at e'; cases e'
 | some o => rw [ho] at e'; exact ⟨o, rfl, by simpa using e'⟩
theorem row_w {P : Program} {ops : Array Oper} {i j : Nat} {o : Oper} (h : ops[i]? = some o) : (rowF P ops o).w.testBit j = true ↔ waits ops i j = true := by
 rw [waits_iff]
 show (maskOf _).testBit j = true ↔ _
 rw [mem_maskOf, List.mem_filterMap]
 constructor
 ·rintro ⟨e, he, hb⟩
  split at hb
  ·rename_i hb'; cases hb; exact ⟨o, h, e, by simpa using he, hb', rfl⟩
  ·cases hb
 ·rintro ⟨o', ho', e, he, hb, rfl⟩
  rw [h] at ho'; cases ho'
  exact ⟨e, by simpa using he, by rw [if_pos hb]⟩
theorem allI_true {α : Type} {f : Nat → α → Bool} : ∀ {l : List α} {i : Nat}, allI f l i = true → ∀ (j : Nat) (x : α), l[j]? = some x → f (i + j) x = true
 | [], i, _, j, x, hx => by simp at hx
 | y :: l, i, h, j, x, hx => by
  have h' : @Bool.rec (fun _ => Bool) false (allI f l (i + 1)) (f i y) = true := h
  cases hf : f i y with
  | false => rw [hf] at h'; cases h'
  | true =>
   rw [hf] at h'
   cases j with
   | zero => simp at hx; subst hx; exact hf
   | succ j =>
    have := allI_true h' j x (by simpa using hx)
    rw [show i + (j + 1) = i + 1 + j by omega]
    exact this
theorem allI_zero {α : Type} {f : Nat → α → Bool} {l : List α} (h : allI f l 0 = true) (j : Nat) (x : α) (hx : l[j]? = some x) : f j x = true := by
 have := allI_true h j x hx
 rwa [Nat.zero_add] at this
theorem bif_true {a b : Bool} (h : (bif a then b else false) = true) : a = true ∧ b = true := by cases a <;> simp_all
/-- The sets, as the proofs read them. -/
noncomputable def ancA (P : Program) (ops : Array Oper) : Array Nat := ((rasOf P ops).map (·.a)).toArray
theorem ancA_at {P : Program} {ops : Array Oper} {i j : Nat} {x : RA} (h : (rasOf P ops)[i]? = some x) : anc (ancA P ops) i j = x.a.testBit j := by
 unfold anc ancA
 have : (((rasOf P ops).map (·.a)).toArray).getD i 0 = x.a := by
  rw [Array.getD_eq_getD_getElem?]
  simp [h]
 rw [this]
theorem heavy_at {P : Program} {ops : Array Oper} {i : Nat} {o : Oper} (h : ops[i]? = some o) : isHeavy P ops i = (rowF P ops o).h := by unfold isHeavy; rw [h]; rfl
theorem looks_at {P : Program} {ops : Array Oper} {i : Nat} {o : Oper} (h : ops[i]? = some o) : looksMem P ops i = (rowF P ops o).k := by unfold looksMem; rw [h]; rfl

theorem pairQ_true {i j : Nat} {x y : RA} (h : pairQ i x j y = true) (hd : y.r.dm = maskOf y.r.d.toList) : pairF i x j y = true := by
 unfold pairQ at h
 cases hb : Nat.beq (Nat.land (Nat.lor x.r.dm x.r.s) y.r.dm) 0 with
 | false => rw [hb] at h; exact h
 | true =>
  have e : (x.r.dm ||| x.r.s) &&& y.r.dm = 0 := Nat.eq_of_beq_eq_true hb
  unfold pairF
  cases hy : y.r.d with
  | none => rfl
  | some k =>
   have hk : y.r.dm.testBit k = true := by rw [hd, hy]; exact mem_maskOf.2 (by simp)
   have h0 : ((x.r.dm ||| x.r.s) &&& y.r.dm).testBit k = false := by rw [e]; exact Nat.zero_testBit k
   rw [Nat.testBit_and, hk, Bool.and_true, Nat.testBit_or, Bool.or_eq_false_iff] at h0
   have a1 : hasB x.r.dm k = false := by rw [hasB_eq]; exact h0.1
   have a2 : hasB x.r.s k = false := by rw [hasB_eq]; exact h0.2
   dsimp only
   rw [a1, a2]
   rfl
theorem shape_of {P : Program} {ops : Array Oper} (h : shapeF (rasOf P ops) ops.size = true) : Shape P ops (ancA P ops) := by
 have key : ∀ i o, ops[i]? = some o → ∃ x, (rasOf P ops)[i]? = some x ∧ x.r = rowF P ops o ∧ x.r.w < 2 ^ ops.size ∧ (x.r.k = true → x.r.d.isSome = true) ∧ subB x.a (Nat.lor x.r.w (orAll (rasOf P ops) x.r.w)) = true ∧
   ∀ j y, (rasOf P ops)[j]? = some y → pairF i x j y = true := by
  intro i o ho
  obtain ⟨x, hx, hr⟩ := ras_at (P := P) ho
  have h1 := allI_zero h i x hx
  obtain ⟨k1, h1⟩ := bif_true h1
  obtain ⟨k2, h1⟩ := bif_true h1
  obtain ⟨k3, h1⟩ := bif_true h1
  refine ⟨x, hx, hr, ?_, fun hk => ?_, k3, fun j y hy => pairQ_true (allI_zero h1 j y hy) (by obtain ⟨o', _, hr'⟩ := ras_to hy; rw [hr']; rfl)⟩
  ·rw [blt_iff] at k1
   have : bit ops.size = 2 ^ ops.size := Nat.one_shiftLeft _
   rw [← this]; exact k1
  ·rw [hk] at k2; exact k2
 have pair : ∀ i o j o' k, ops[i]? = some o → ops[j]? = some o' → o'.dst = some k → (o.dst = some k → j = i) ∧ (k ∈ slotsOf ops o → anc (ancA P ops) i j = true ∨ (looksMem P ops i = false ∧ (j = i ∨ anc (ancA P ops) j i = true))) := by
  intro i o j o' k ho ho' hk
  obtain ⟨x, hx, hr, _, _, _, hp⟩ := key i o ho
  obtain ⟨y, hy, hr'⟩ := ras_at (P := P) ho'
  have h1 := hp j y hy
  unfold pairF at h1
  have hd : y.r.d = some k := by rw [hr']; exact hk
  rw [hd] at h1
  have h1' : (bif (bif hasB x.r.dm k then Nat.beq j i else true) then (bif hasB x.r.s k then (bif hasB x.a j then true else (bif x.r.k then false else (bif Nat.beq j i then true else hasB y.a i))) else true) else false) = true := h1
  obtain ⟨g1, g2⟩ := bif_true h1'
  refine ⟨fun hd' => ?_, fun hs => ?_⟩
  ·have : hasB x.r.dm k = true := by
    rw [hasB_eq, hr]
    show (maskOf o.dst.toList).testBit k = true
    rw [mem_maskOf, hd']; simp
   rw [this] at g1
   exact Nat.eq_of_beq_eq_true g1
  ·have : hasB x.r.s k = true := by
    rw [hasB_eq, hr]
    exact mem_maskOf.2 hs
   rw [this] at g2
   simp only [cond_true] at g2
   rw [ancA_at hx, ancA_at hy, looks_at (P := P) ho, ← hr]
   cases ha : hasB x.a j with
   | true => rw [hasB_eq] at ha; exact .inl ha
   | false =>
    rw [ha] at g2
    simp only [cond_false] at g2
    cases hk' : x.r.k with
    | true => rw [hk'] at g2; cases g2
    | false =>
     rw [hk'] at g2
     simp only [cond_false] at g2
     cases hb : Nat.beq j i with
     | true => exact .inr ⟨rfl, .inl (Nat.eq_of_beq_eq_true hb)⟩
     | false => rw [hb] at g2; rw [hasB_eq] at g2; exact .inr ⟨rfl, .inr g2⟩
 refine ⟨fun i j hw => ?_, fun i j hi hj ha => ?_, fun i j k hi hj => ?_, fun i o j k ho hj hk => ?_, fun i o ho hl => ?_⟩
 ·obtain ⟨o, ho, _⟩ := waits_iff.1 hw
  obtain ⟨x, hx, hr, hlt, _⟩ := key i o ho
  have : x.r.w.testBit j = true := by rw [hr]; exact (row_w ho).2 hw
  apply Classical.byContradiction
  intro hn
  rw [Nat.testBit_lt_two_pow (Nat.lt_of_lt_of_le hlt (Nat.pow_le_pow_right (by omega) (by omega)))] at this
  cases this
 ·have ho : ops[i]? = some ops[i] := Array.getElem?_eq_getElem hi
  obtain ⟨x, hx, hr, _, _, hs, _⟩ := key i _ ho
  rw [ancA_at hx] at ha
  have h1 := subB_true hs j ha
  rw [lor_testBit, Bool.or_eq_true] at h1
  rcases h1 with h1 | h1
  ·rw [hr] at h1; exact .inl ((row_w ho).1 h1)
  ·obtain ⟨d, y, hy, h2, h3⟩ := orAll_testBit h1
   rw [hr] at h2
   exact .inr ⟨d, (row_w ho).1 h2, by rw [ancA_at hy]; exact h3⟩
 ·have hi' := dstOf_lt hi
  have hj' := dstOf_lt hj
  have ho : ops[i]? = some ops[i] := Array.getElem?_eq_getElem hi'
  have ho' : ops[j]? = some ops[j] := Array.getElem?_eq_getElem hj'
  rw [dstOf_eq ho] at hi
  rw [dstOf_eq ho'] at hj
  exact ((pair i _ j _ k ho ho' hj).1 hi).symm
 ·have hj' := dstOf_lt hj
  have ho' : ops[j]? = some ops[j] := Array.getElem?_eq_getElem hj'
  rw [dstOf_eq ho'] at hj
  exact (pair i o j _ k ho ho' hj).2 hk
 ·obtain ⟨x, hx, hr, _, hd, _⟩ := key i o ho
  rw [looks_at (P := P) ho, ← hr] at hl
  have := hd hl
  rw [hr] at this
  exact Option.isSome_iff_exists.1 this

/-- The order in which the operations were taken. -/
def Ord (ops : Array Oper) : List Nat → Prop
 | [] => True
 | i :: r => (∀ j, waits ops i j = true → j ∈ r) ∧ Ord ops r

structure PlanHead (P : Program) (ops : Array Oper) (A : Array Nat) (i : Nat) (rc : List Nat) (done : List Nat) : Prop where
 lt : i < ops.size
 new : i ∉ done
 dep : ∀ j, waits ops i j = true → j ∈ done
 again : isHeavy P ops i = true → ∀ j ∈ done, looksMem P ops j = true → anc A i j = true ∨ j ∈ rc
 alone : isHeavy P ops i = true → ∀ j, j < ops.size → j ∉ done → j ≠ i → ∃ e, waits ops j e = true ∧ e ∉ done

/-- The order is one that the others come to. -/
def PlanP (P : Program) (ops : Array Oper) (A : Array Nat) : List (Nat × List Nat) → List Nat → Prop
 | [], done => ∀ i, i < ops.size → i ∈ done
 | (i, rc) :: l, done => PlanHead P ops A i rc done ∧ PlanP P ops A l (i :: done)

theorem check_plan {P : Program} {ops : Array Oper} : ∀ (p : List (Nat × List Nat)) (D : Nat) (done : List Nat), (∀ j, D.testBit j = true ↔ j ∈ done) → checkF (rasOf P ops) ops.size p D = true → PlanP P ops (ancA P ops) p done
 | [], D, done, hD, h => fun i hi => by
  have e : D = bit ops.size - 1 := Nat.eq_of_beq_eq_true h
  rw [← hD, e, show bit ops.size = 2 ^ ops.size from Nat.one_shiftLeft _, Nat.testBit_two_pow_sub_one]
  exact decide_eq_true hi
 | (i, rc) :: l, D, done, hD, h => by
  have h' : Option.rec (motive := fun _ => Bool) false (fun x => bif headF (rasOf P ops) i rc D x then checkF (rasOf P ops) ops.size l (Nat.lor D (bit i)) else false) (nth (rasOf P ops) i) = true := h
  rw [nth_eq] at h'
  cases hx : (rasOf P ops)[i]? with
  | none => rw [hx] at h'; cases h'
  | some x =>
  rw [hx] at h'
  obtain ⟨h1, h2⟩ := bif_true h'
  obtain ⟨o, ho, hr⟩ := ras_to hx
  have hlt := (Array.getElem?_eq_some_iff.1 ho).1
  unfold headF at h1
  cases hi : hasB D i with
  | true => rw [hi] at h1; cases h1
  | false =>
  rw [hi] at h1
  obtain ⟨hw, h3⟩ := bif_true h1
  refine ⟨⟨hlt, fun hm => ?_, fun j hj => ?_, fun hh j hj hl => ?_, fun hh j hj hn hne => ?_⟩, check_plan l _ (i :: done) (fun j => ?_) h2⟩
  ·rw [hasB_eq] at hi
   rw [(hD i).2 hm] at hi; cases hi
  ·exact (hD j).1 (subB_true hw j (by rw [hr]; exact (row_w ho).2 hj))
  ·rw [heavy_at (P := P) ho, ← hr] at hh
   rw [hh] at h3
   have hjlt : ∃ o', ops[j]? = some o' := by
    cases ho' : ops[j]? with
    | some o' => exact ⟨o', rfl⟩
    | none => unfold looksMem at hl; rw [ho'] at hl; cases hl
   obtain ⟨o', ho'⟩ := hjlt
   obtain ⟨y, hy, hr'⟩ := ras_at (P := P) ho'
   have h4 := allI_zero h3 j y hy
   have hdj : hasB D j = true := by rw [hasB_eq]; exact (hD j).2 hj
   rw [hdj] at h4
   simp only [cond_true] at h4
   rw [ancA_at hx]
   cases ha : hasB x.a j with
   | true => rw [hasB_eq] at ha; exact .inl ha
   | false =>
    rw [ha] at h4
    rw [looks_at (P := P) ho', ← hr'] at hl
    rw [hl] at h4
    simp only [cond_true, cond_false] at h4
    rw [hasB_eq] at h4
    exact .inr (mem_maskOf.1 h4)
  ·rw [heavy_at (P := P) ho, ← hr] at hh
   rw [hh] at h3
   have ho' : ops[j]? = some ops[j] := Array.getElem?_eq_getElem hj
   obtain ⟨y, hy, hr'⟩ := ras_at (P := P) ho'
   have h4 := allI_zero h3 j y hy
   have hdj : hasB D j = false := by
    rw [hasB_eq]
    cases hb : D.testBit j with
    | false => rfl
    | true => exact absurd ((hD j).1 hb) hn
   rw [hdj] at h4
   simp only [cond_false] at h4
   cases hb : Nat.beq j i with
   | true => exact absurd (Nat.eq_of_beq_eq_true hb) hne
   | false =>
    rw [hb] at h4
    simp only [cond_false] at h4
    cases hsb : subB y.r.w D with
    | true => rw [hsb] at h4; cases h4
    | false =>
     obtain ⟨e, g1, g2⟩ := subB_false hsb
     rw [hr'] at g1
     exact ⟨e, (row_w ho').1 g1, fun hm => by rw [(hD e).2 hm] at g2; cases g2⟩
  ·rw [lor_testBit, bit_testBit, Bool.or_eq_true, hD, List.mem_cons, decide_eq_true_eq]
   exact ⟨fun h => h.elim .inr (fun h => .inl h.symm), fun h => h.elim (fun h => .inr h.symm) .inl⟩
theorem fast_ok {P : Program} {ops : Array Oper} (h : fastOK P ops = true) : Shape P ops (ancA P ops) ∧ PlanP P ops (ancA P ops) (plan P ops) [] := by
 obtain ⟨h1, h2⟩ := bif_true h
 exact ⟨shape_of h1, check_plan _ 0 [] (fun j => by simp) h2⟩
end Go.Ev

/- Regions that draw their order: every order comes to the plan's. -/
namespace Go.Ev
variable [Env]

def Li (listed : Array Bool) (i : Nat) : Prop := listed.getD i false = true
theorem Li.lt {listed : Array Bool} {i : Nat} (h : Li listed i) : i < listed.size := by
 unfold Li at h
 rcases Nat.lt_or_ge i listed.size with h' | h'
 ·exact h'
 ·simp [Array.getD_eq_getD_getElem?, Array.getElem?_eq_none h'] at h
theorem not_Li {listed : Array Bool} {i : Nat} (hi : i < listed.size) : listed.getD i true = false ↔ ¬ Li listed i := by
 simp [Li, Array.getD_eq_getD_getElem?, hi]
theorem Li_set {listed : Array Bool} {i j : Nat} (hi : i < listed.size) : Li (listed.setIfInBounds i true) j ↔ j = i ∨ Li listed j := by
 unfold Li
 simp only [Array.getD_eq_getD_getElem?, Array.getElem?_setIfInBounds]
 by_cases e : i = j
 ·subst e; simp [hi]
 ·simp [e, Ne.symm e]

def blk : AV → Option Pos
 | .ptr b _ => some b
 | .slice b _ _ _ => some b
 | .map b => some b
 | _ => none
theorem blk_of (mk : Mk) (b : Pos) : blk (mk.of b) = some b := by cases mk <;> rfl

/-- What an operation that the plan has taken, and the machine not yet, will come to. -/
def PendV (P : Program) (G : Cx) (t : PT AV) (σ : AHeap) (ρ : Ren) (lo : Nat) (ti : PT AV) (o : Oper) : Prop :=
 match kindOf P o.op with
 | .pure => ∃ v, pureA P (evalT G ti) o.op = some v ∧ ∀ k, o.dst = some k → t.get (posOf k) = some v
 | .read => ∃ v, readA P (evalT G ti) σ o.op = some v ∧ ∀ k, o.dst = some k → t.get (posOf k) = some v
 | .alloc => ∃ ob mk b, allocA P (evalT G ti) o.op = some (ob, mk) ∧ σ.m.get b = some ob ∧ ρ b = none ∧ lo ≤ b.num ∧ b.num < σ.next.num ∧ ∀ k, o.dst = some k → t.get (posOf k) = some (mk.of b)
 | .heavy => False
def Pend (P : Program) (G : Cx) (ops : Array Oper) (A : Array Nat) (t₀ t : PT AV) (σ : AHeap) (ρ : Ren) (lo : Nat) (i : Nat) : Prop :=
 ∃ o ti, ops[i]? = some o ∧
  (∀ k ∈ slotsOf ops o, ∀ j, anc A i j = true → dstOf ops j = some k → ti.get (posOf k) = t.get (posOf k)) ∧
  (∀ k ∈ slotsOf ops o, (∀ j, dstOf ops j = some k → anc A i j = false) → ti.get (posOf k) = t₀.get (posOf k)) ∧
  ∃ bw, wantedA ops ti o = some bw ∧ (bw = false → ∀ k, o.dst = some k → t.get (posOf k) = some unit) ∧ (bw = true → PendV P G t σ ρ lo ti o)

section
variable {P : Program} {G : Cx} {ops : Array Oper} {A : Array Nat} {t₀ t t₁ : PT AV} {σ σ₁ : AHeap} {ρ ρ₁ : Ren} {lo i : Nat}

theorem guard_slot {o : Oper} {j : Nat} {want : Bool} {k : Nat} (hg : o.guard = some (j, want)) (hk : (ops[j]?).bind (·.dst) = some k) : k ∈ slotsOf ops o := by
 unfold slotsOf
 rw [hg]
 simp [hk]
theorem operand_slot {o : Oper} {k : Nat} (h : Operand.tmp k ∈ o.op.operands) : k ∈ slotsOf ops o := by
 unfold slotsOf
 refine List.mem_append_left _ (List.mem_filterMap.2 ⟨.tmp k, by simpa using h, rfl⟩)
theorem wantedA_congr {o : Oper} {ti tj : PT AV} (h : ∀ k ∈ slotsOf ops o, ti.get (posOf k) = tj.get (posOf k)) : wantedA ops ti o = wantedA ops tj o := by
 unfold wantedA
 cases hg : o.guard with
 | none => rfl
 | some jw =>
  obtain ⟨j, want⟩ := jw
  dsimp only
  cases hk : (ops[j]?).bind (·.dst) with
  | none => rfl
  | some k => dsimp only; rw [h k (guard_slot hg hk)]

theorem Pend.agree (hp : Pend P G ops A t₀ t σ ρ lo i) (h : ∀ k, (dstOf ops i = some k ∨ ∃ j, anc A i j = true ∧ dstOf ops j = some k) → t₁.get (posOf k) = t.get (posOf k)) : Pend P G ops A t₀ t₁ σ ρ lo i := by
 obtain ⟨o, ti, ho, h1, h2, bw, h3, h4, h5⟩ := hp
 have hd : ∀ k, o.dst = some k → t₁.get (posOf k) = t.get (posOf k) := fun k hk => h k (.inl (by rw [dstOf_eq ho]; exact hk))
 refine ⟨o, ti, ho, fun k hk j ha hj => (h1 k hk j ha hj).trans (h k (.inr ⟨j, ha, hj⟩)).symm, h2, bw, h3, fun hb k hk => (hd k hk).trans (h4 hb k hk), fun hb => ?_⟩
 have := h5 hb
 unfold PendV at this ⊢
 split at this
 ·obtain ⟨v, g1, g2⟩ := this; exact ⟨v, g1, fun k hk => (hd k hk).trans (g2 k hk)⟩
 ·obtain ⟨v, g1, g2⟩ := this; exact ⟨v, g1, fun k hk => (hd k hk).trans (g2 k hk)⟩
 ·obtain ⟨ob, mk, b, g1, g2, g3, g4, g5, g6⟩ := this; exact ⟨ob, mk, b, g1, g2, g3, g4, g5, fun k hk => (hd k hk).trans (g6 k hk)⟩
 ·exact this

theorem Pend.grow (hp : Pend P G ops A t₀ t σ ρ lo i) (h : ∀ b o, σ.m.get b = some o → σ₁.m.get b = some o) (hn : σ.next.num ≤ σ₁.next.num) : Pend P G ops A t₀ t σ₁ ρ lo i := by
 obtain ⟨o, ti, ho, h1, h2, bw, h3, h4, h5⟩ := hp
 refine ⟨o, ti, ho, h1, h2, bw, h3, h4, fun hb => ?_⟩
 have := h5 hb
 unfold PendV at this ⊢
 split at this
 ·exact this
 ·obtain ⟨v, g1, g2⟩ := this; exact ⟨v, readA_ext h g1, g2⟩
 ·obtain ⟨ob, mk, b, g1, g2, g3, g4, g5, g6⟩ := this; exact ⟨ob, mk, b, g1, h b ob g2, g3, g4, by omega, g6⟩
 ·exact this

theorem Pend.ren (hp : Pend P G ops A t₀ t σ ρ lo i) (hs : Shape P ops A) (h : ∀ b, (∃ o k v, ops[i]? = some o ∧ kindOf P o.op = .alloc ∧ dstOf ops i = some k ∧ t.get (posOf k) = some v ∧ blk v = some b) → ρ b = none → ρ₁ b = none) : Pend P G ops A t₀ t σ ρ₁ lo i := by
 obtain ⟨o, ti, ho, h1, h2, bw, h3, h4, h5⟩ := hp
 refine ⟨o, ti, ho, h1, h2, bw, h3, h4, fun hb => ?_⟩
 have := h5 hb
 unfold PendV at this ⊢
 split at this
 ·exact this
 ·exact this
 ·rename_i hk
  obtain ⟨ob, mk, b, g1, g2, g3, g4, g5, g6⟩ := this
  obtain ⟨k, hkd⟩ := hs.dst i o ho (by simp [looksMem, looksK, ho, hk])
  exact ⟨ob, mk, b, g1, g2, h b ⟨o, k, _, ho, hk, by rw [dstOf_eq ho]; exact hkd, g6 k hkd, blk_of mk b⟩ g3, g4, g5, g6⟩
 ·exact this

theorem Pend.again (hp : Pend P G ops A t₀ t σ ρ lo i) (hs : Shape P ops A) (h : ∀ k, (dstOf ops i = some k ∨ ∃ j, anc A i j = true ∧ dstOf ops j = some k) → t₁.get (posOf k) = t.get (posOf k))
  (h0 : ∀ k, (∀ j, dstOf ops j ≠ some k) → t₁.get (posOf k) = t₀.get (posOf k)) (hstill : looksMem P ops i = true → stillX P G ops t₁ σ₁ i = true)
  (hr : ∀ b : Pos, b.num < σ.next.num → ρ₁ b = ρ b) (hn : σ.next.num ≤ σ₁.next.num) : Pend P G ops A t₀ t₁ σ₁ ρ₁ lo i := by
 have hp₁ := hp.agree h
 obtain ⟨o, ti, ho, h1, h2, bw, h3, h4, h5⟩ := hp₁
 cases hb : bw with
 | false => exact ⟨o, ti, ho, h1, h2, bw, h3, h4, fun hb' => absurd hb' (by rw [hb]; simp)⟩
 | true =>
  have hv := h5 hb
  subst hb
  cases hk : kindOf P o.op with
  | pure =>
   refine ⟨o, ti, ho, h1, h2, true, h3, h4, fun _ => ?_⟩
   unfold PendV at hv ⊢
   rw [hk] at hv ⊢
   exact hv
  | heavy => unfold PendV at hv; rw [hk] at hv; exact hv.elim
  | read =>
   have hl : looksMem P ops i = true := by simp [looksMem, looksK, ho, hk]
   have hsl : ∀ k ∈ slotsOf ops o, t₁.get (posOf k) = ti.get (posOf k) := fun k hks => by
    by_cases hw : ∃ j, dstOf ops j = some k
    ·obtain ⟨j, hj⟩ := hw
     rcases hs.look i o j k ho hj hks with ha | ⟨hno, _⟩
     ·exact (h1 k hks j ha hj).symm
     ·rw [hl] at hno; cases hno
    ·rw [h0 k (fun j hj => hw ⟨j, hj⟩), h2 k hks (fun j hj => absurd ⟨j, hj⟩ hw)]
   have hst := hstill hl
   unfold stillX at hst
   rw [ho] at hst
   dsimp only at hst
   rw [wantedA_congr hsl, h3] at hst
   dsimp only at hst
   refine ⟨o, t₁, ho, fun _ _ _ _ _ => rfl, fun k hks hj => (hsl k hks).trans (h2 k hks hj), true, by rw [wantedA_congr hsl]; exact h3, fun h' => (by cases h'), fun _ => ?_⟩
   unfold PendV
   rw [hk]
   split at hst
   ·rename_i k hkd
    split at hst
    ·rename_i v hvk
     rw [hk] at hst
     dsimp only at hst
     split at hst
     ·rename_i u hu
      have := beqA_eq hst
      subst this
      exact ⟨u, hu, fun k' hk' => by rw [hkd] at hk'; cases hk'; exact hvk⟩
     ·cases hst
    ·cases hst
   ·cases hst
  | alloc =>
   have hl : looksMem P ops i = true := by simp [looksMem, looksK, ho, hk]
   have hsl : ∀ k ∈ slotsOf ops o, t₁.get (posOf k) = ti.get (posOf k) := fun k hks => by
    by_cases hw : ∃ j, dstOf ops j = some k
    ·obtain ⟨j, hj⟩ := hw
     rcases hs.look i o j k ho hj hks with ha | ⟨hno, _⟩
     ·exact (h1 k hks j ha hj).symm
     ·rw [hl] at hno; cases hno
    ·rw [h0 k (fun j hj => hw ⟨j, hj⟩), h2 k hks (fun j hj => absurd ⟨j, hj⟩ hw)]
   have hst := hstill hl
   unfold stillX at hst
   rw [ho] at hst
   dsimp only at hst
   rw [wantedA_congr hsl, h3] at hst
   dsimp only at hst
   refine ⟨o, t₁, ho, fun _ _ _ _ _ => rfl, fun k hks hj => (hsl k hks).trans (h2 k hks hj), true, by rw [wantedA_congr hsl]; exact h3, fun h' => (by cases h'), fun _ => ?_⟩
   unfold PendV at hv ⊢
   rw [hk] at hv ⊢
   dsimp only at hv ⊢
   obtain ⟨ob, mk, b, g1, g2, g3, g4, g5, g6⟩ := hv
   split at hst
   ·rename_i k hkd
    have g6' := g6 k hkd
    rw [g6'] at hst
    dsimp only at hst
    rw [hk] at hst
    dsimp only at hst
    have hrb : ρ₁ b = none := by rw [hr b g5]; exact g3
    split at hst
    ·rename_i cs e b' ha hvb
     split at hst
     ·rename_i cs' e' hbb
      rw [Bool.and_eq_true] at hst
      have e1 := Nat.eq_of_beq_eq_true hst.1
      have e2 := beqL_eq hst.2
      subst e1; subst e2
      have hbb' : b' = b := by cases mk <;> simp [Mk.of] at hvb <;> exact hvb.symm
      have hmk : mk = .ptr := by cases mk <;> simp [Mk.of] at hvb <;> rfl
      subst hbb'; subst hmk
      exact ⟨_, _, b', ha, hbb, hrb, g4, by omega, g6⟩
     ·cases hst
    ·rename_i cs e n c b' n' c' ha hvb
     split at hst
     ·rename_i cs' e' hbb
      simp only [Bool.and_eq_true] at hst
      have e1 := Nat.eq_of_beq_eq_true hst.1.1.1
      have e2 := beqL_eq hst.1.1.2
      have e3 := Nat.eq_of_beq_eq_true hst.1.2
      have e4 := Nat.eq_of_beq_eq_true hst.2
      subst e1; subst e2; subst e3; subst e4
      have hmk : b' = b ∧ mk = .slice n c := by cases mk <;> simp [Mk.of] at hvb <;> (obtain ⟨q1, q2, q3⟩ := hvb; subst q1; subst q2; subst q3; exact ⟨rfl, rfl⟩)
      obtain ⟨rfl, rfl⟩ := hmk
      exact ⟨_, _, b', ha, hbb, hrb, g4, by omega, g6⟩
     ·cases hst
    ·cases hst
   ·cases hst
end

theorem putT_facts {t t₁ : PT AV} {n : Nat} {dst : Option Nat} {v : AV} (h : putT t n dst v = some t₁) :
  (∀ k, dst ≠ some k → t₁.get (posOf k) = t.get (posOf k)) ∧ (∀ k, dst = some k → k < n ∧ t₁.get (posOf k) = some v) := by
 cases dst with
 | none => cases h; exact ⟨fun _ _ => rfl, fun k hk => by cases hk⟩
 | some j =>
  obtain ⟨hj, rfl⟩ := putT_some h
  refine ⟨fun k hk => PT.get_put_other _ _ _ _ (fun e => hk (by rw [posOf_inj e])), fun k hk => ?_⟩
  cases hk
  exact ⟨hj, PT.get_put_same _ _ _⟩
theorem put_at {a : Act} {dst : Option Tmp} {x : Value} : (∀ k, dst ≠ some k → (a.put dst x).tmps.getD k undef = a.tmps.getD k undef) ∧ (∀ k, dst = some k → k < a.tmps.size → (a.put dst x).tmps.getD k undef = x) ∧ (a.put dst x).tmps.size = a.tmps.size := by
 cases dst with
 | none => exact ⟨fun _ _ => rfl, (fun k hk => by cases hk), rfl⟩
 | some j =>
  refine ⟨fun k hk => ?_, fun k hk hlt => ?_, by simp [Act.put]⟩
  ·have : j ≠ k := fun e => hk (by rw [e])
   simp [Act.put, Array.getD_eq_getD_getElem?, Array.getElem?_setIfInBounds, this]
  ·cases hk
   simp [Act.put, Array.getD_eq_getD_getElem?, Array.getElem?_setIfInBounds, hlt]
end Go.Ev

/- Regions that draw their order: the state between the plan and the machine. -/
namespace Go.Ev
variable [Env]

theorem mem_cons_cases {α : Type} {x y : α} {l : List α} (h : x ∈ y :: l) : x = y ∨ x ∈ l := List.mem_cons.1 h

/-- The plan has taken 'done', and comes to 'fin' by l; the machine has taken what is listed. -/
structure J (P : Program) (G : Cx) (ih : IhC) (ops : Array Oper) (A : Array Nat) (n : Nat) (d : List DE) (fin : CR) (ρ₀ : Ren) (σ₀ : AHeap) (w₀ : World) (t₀ : PT AV)
  (l : List (Nat × List Nat)) (done : List Nat) (t : PT AV) (σ : AHeap) (listed : Array Bool) (ρ : Ren) (w : World) (a : Act) : Prop where
 run : planX P G ih ops n d l t σ = fin
 ok : PlanP P ops A l done
 inv : Inv ρ σ w
 stp : Stp ρ₀ σ₀ w₀ ρ σ w
 dr : DR ρ d a.defers
 gr : GR ρ G
 tsz : a.tmps.size = n
 lsz : listed.size = ops.size
 bnd : ∀ i ∈ done, i < ops.size
 ord : Ord ops done
 sub : ∀ i, Li listed i → i ∈ done
 heavy : ∀ i ∈ done, isHeavy P ops i = true → Li listed i
 closed : ∀ i j, j < ops.size → Li listed i → anc A i j = true → Li listed j
 dclosed : ∀ i j, j < ops.size → i ∈ done → anc A i j = true → j ∈ done
 dlt : ∀ i ∈ done, ∀ k, dstOf ops i = some k → k < n
 slotS : ∀ i k v, Li listed i → dstOf ops i = some k → t.get (posOf k) = some v → VR ρ v (a.tmps.getD k undef)
 slot0 : ∀ k v, (∀ i, Li listed i → dstOf ops i ≠ some k) → t₀.get (posOf k) = some v → k < n ∧ VR ρ v (a.tmps.getD k undef)
 same : ∀ k, (∀ i ∈ done, dstOf ops i ≠ some k) → t.get (posOf k) = t₀.get (posOf k)
 pend : ∀ i ∈ done, ¬ Li listed i → Pend P G ops A t₀ t σ ρ σ₀.next.num i
 apart : ∀ i j o o' k k' v v' b, i ∈ done → j ∈ done → ¬ Li listed i → ¬ Li listed j → ops[i]? = some o → ops[j]? = some o' → kindOf P o.op = .alloc → kindOf P o'.op = .alloc →
  dstOf ops i = some k → dstOf ops j = some k' → t.get (posOf k) = some v → t.get (posOf k') = some v' → blk v = some b → blk v' = some b → i = j

section
variable {P : Program} {G : Cx} {ih : IhC} {ops : Array Oper} {A : Array Nat} {n : Nat} {d : List DE} {fin : CR} {ρ₀ : Ren} {σ₀ : AHeap} {w₀ : World} {t₀ : PT AV}
variable {l : List (Nat × List Nat)} {done : List Nat} {t : PT AV} {σ : AHeap} {listed : Array Bool} {ρ : Ren} {w : World} {a : Act}

theorem anc_done (hs : Shape P ops A) {i : Nat} (hi : i < ops.size) (hw : ∀ j, waits ops i j = true → j ∈ done) (hd : ∀ i j, j < ops.size → i ∈ done → anc A i j = true → j ∈ done) : ∀ j, j < ops.size → anc A i j = true → j ∈ done := fun j hj ha => by
 rcases hs.anc i j hi hj ha with h | ⟨q, h1, h2⟩
 ·exact hw j h
 ·exact hd q j hj (hw q h1) h2
theorem anc_listed (hs : Shape P ops A) {i : Nat} (hi : i < ops.size) (hw : ∀ j, waits ops i j = true → Li listed j) (hd : ∀ i j, j < ops.size → Li listed i → anc A i j = true → Li listed j) : ∀ j, j < ops.size → anc A i j = true → Li listed j := fun j hj ha => by
 rcases hs.anc i j hi hj ha with h | ⟨q, h1, h2⟩
 ·exact hw j h
 ·exact hd q j hj (hw q h1) h2

/-- The slots that the next operation of the plan looks at. -/
theorem J.head_slots (hs : Shape P ops A) (hj : J P G ih ops A n d fin ρ₀ σ₀ w₀ t₀ l done t σ listed ρ w a) {i : Nat} {o : Oper} (ho : ops[i]? = some o) (hn : i ∉ done) :
  ∀ k ∈ slotsOf ops o, (∀ j, dstOf ops j = some k → anc A i j = false) → t.get (posOf k) = t₀.get (posOf k) := fun k hk hno => by
 refine hj.same k fun j hjd hjk => ?_
 rcases hs.look i o j k ho hjk hk with h | ⟨_, h | h⟩
 ·rw [hno j hjk] at h; cases h
 ·subst h; exact hn hjd
 ·exact hn (hj.dclosed j i (Array.getElem?_eq_some_iff.1 ho).1 hjd h)

/-- What an operation that is ready looks at. -/
theorem J.look (hs : Shape P ops A) (hj : J P G ih ops A n d fin ρ₀ σ₀ w₀ t₀ l done t σ listed ρ w a) {i : Nat} {o : Oper} {ti : PT AV} (ho : ops[i]? = some o) (hn : ¬ Li listed i) (hr : ∀ j, j < ops.size → anc A i j = true → Li listed j)
  (h1 : ∀ k ∈ slotsOf ops o, ∀ j, anc A i j = true → dstOf ops j = some k → ti.get (posOf k) = t.get (posOf k)) (h2 : ∀ k ∈ slotsOf ops o, (∀ j, dstOf ops j = some k → anc A i j = false) → ti.get (posOf k) = t₀.get (posOf k)) :
  ∀ k ∈ slotsOf ops o, ∀ v, ti.get (posOf k) = some v → k < n ∧ VR ρ v (a.tmps.getD k undef) := fun k hk v hv => by
 by_cases hw : ∃ j, dstOf ops j = some k ∧ anc A i j = true
 ·obtain ⟨j, hjk, ha⟩ := hw
  have hL := hr j (dstOf_lt hjk) ha
  rw [h1 k hk j ha hjk] at hv
  exact ⟨hj.dlt j (hj.sub j hL) k hjk, hj.slotS j k v hL hjk hv⟩
 ·have hno : ∀ j, dstOf ops j = some k → anc A i j = false := fun j hjk => by
   cases h : anc A i j with
   | false => rfl
   | true => exact absurd ⟨j, hjk, h⟩ hw
  rw [h2 k hk hno] at hv
  refine hj.slot0 k v (fun j hL hjk => ?_) hv
  rcases hs.look i o j k ho hjk hk with h | ⟨_, h | h⟩
  ·rw [hno j hjk] at h; cases h
  ·subst h; exact hn hL
  ·exact hn (hj.closed j i (Array.getElem?_eq_some_iff.1 ho).1 hL h)

theorem look_ER {ti : PT AV} {o : Oper} (hg : GR ρ G) (h : ∀ k ∈ slotsOf ops o, ∀ v, ti.get (posOf k) = some v → k < n ∧ VR ρ v (a.tmps.getD k undef)) : ER ρ (evalT G ti) a.eval o.op := fun x hx v hv => by
 cases x with
 | tmp k => exact (h k (operand_slot hx) v hv).2
 | const c => exact eval_sound (t := .leaf) (n := a.tmps.size) hg ⟨rfl, fun k v hk => by rw [PT.get_leaf] at hk; cases hk⟩ hv
 | global g => exact eval_sound (t := .leaf) (n := a.tmps.size) hg ⟨rfl, fun k v hk => by rw [PT.get_leaf] at hk; cases hk⟩ hv
 | func f => exact eval_sound (t := .leaf) (n := a.tmps.size) hg ⟨rfl, fun k v hk => by rw [PT.get_leaf] at hk; cases hk⟩ hv
theorem look_wanted {ti : PT AV} {o : Oper} {b : Bool} (hsz : a.tmps.size = n) (h : ∀ k ∈ slotsOf ops o, ∀ v, ti.get (posOf k) = some v → k < n ∧ VR ρ v (a.tmps.getD k undef)) (hw : wantedA ops ti o = some b) : Region.wanted o (yielded ops a.tmps) = b :=
 wanted_at hw fun j want k hg hk v hv => by
  have := h k (guard_slot hg hk) v hv
  rw [hsz]; exact this

/-- The plan takes an operation that turns no memory; the machine does not yet. -/
theorem J.ahead (hs : Shape P ops A) {i : Nat} {rc : List Nat} (hj : J P G ih ops A n d fin ρ₀ σ₀ w₀ t₀ ((i, rc) :: l) done t σ listed ρ w a) (hl : isHeavy P ops i = false) {o : Oper} (ho : ops[i]? = some o) {v : AV} {t₁ : PT AV} {σ₁ : AHeap}
  (hp : putT t n o.dst v = some t₁) (hrun : planX P G ih ops n d l t₁ σ₁ = fin) (hinv : Inv ρ σ₁ w) (hst : Stp ρ σ w ρ σ₁ w) (hget : ∀ b o, σ.m.get b = some o → σ₁.m.get b = some o)
  (hblk : ∀ b, blk v = some b → kindOf P o.op = .alloc → σ.next.num ≤ b.num) (hpend : Pend P G ops A t₀ t₁ σ₁ ρ σ₀.next.num i) : J P G ih ops A n d fin ρ₀ σ₀ w₀ t₀ l (i :: done) t₁ σ₁ listed ρ w a := by
 obtain ⟨hh, hok⟩ := hj.ok
 obtain ⟨f1, f2⟩ := putT_facts hp
 have hdi : dstOf ops i = o.dst := dstOf_eq ho
 have hnL : ¬ Li listed i := fun h => hh.new (hj.sub i h)
 have hother : ∀ j ∈ done, ∀ k, dstOf ops j = some k → t₁.get (posOf k) = t.get (posOf k) := fun j hjd k hk => f1 k fun e => by
  have := hs.uniq i j k (by rw [hdi]; exact e) hk
  subst this; exact hh.new hjd
 have hpend' : ∀ j ∈ done, ¬ Li listed j → Pend P G ops A t₀ t₁ σ₁ ρ σ₀.next.num j := fun j hjd hjl => by
  refine ((hj.pend j hjd hjl).agree fun k hk => ?_).grow hget hst.next
  rcases hk with hk | ⟨q, hq, hk⟩
  ·exact hother j hjd k hk
  ·exact hother q (hj.dclosed j q (dstOf_lt hk) hjd hq) k hk
 have hfar : ∀ j o' k' v' b, j ∈ done → ¬ Li listed j → ops[j]? = some o' → kindOf P o'.op = .alloc → dstOf ops j = some k' → t₁.get (posOf k') = some v' → blk v' = some b → b.num < σ.next.num := fun j o' k' v' b hjd hjl ho' hk hd hv hb => by
  obtain ⟨o'', ti, e, _, _, bw, _, h4, h5⟩ := hj.pend j hjd hjl
  rw [ho'] at e; cases e
  rw [hother j hjd k' hd] at hv
  rw [dstOf_eq ho'] at hd
  cases bw with
  | false => rw [h4 rfl k' hd] at hv; cases hv; cases hb
  | true =>
   have := h5 rfl
   unfold PendV at this
   rw [hk] at this
   obtain ⟨ob, mk, b', g1, g2, g3, g4, g5, g6⟩ := this
   rw [g6 k' hd] at hv; cases hv
   rw [blk_of] at hb; cases hb
   exact g5
 refine ⟨hrun, hok, hinv, hj.stp.trans hst, hj.dr, hj.gr, hj.tsz, hj.lsz, fun j h => ?_, ⟨hh.dep, hj.ord⟩, fun j h => List.mem_cons_of_mem _ (hj.sub j h), fun j h hv => ?_, hj.closed, fun j q hq h ha => ?_, fun j h k hk => ?_, fun j k u hL hk hu => ?_, hj.slot0, fun k hk => ?_, fun j h hjl => ?_, ?_⟩
 ·rcases mem_cons_cases h with rfl | h
  ·exact hh.lt
  ·exact hj.bnd j h
 ·rcases mem_cons_cases h with rfl | h
  ·rw [hl] at hv; cases hv
  ·exact hj.heavy j h hv
 ·rcases mem_cons_cases h with rfl | h
  ·exact List.mem_cons_of_mem _ (anc_done hs hh.lt hh.dep hj.dclosed q hq ha)
  ·exact List.mem_cons_of_mem _ (hj.dclosed j q hq h ha)
 ·rcases mem_cons_cases h with rfl | h
  ·exact (f2 k (by rw [← hdi]; exact hk)).1
  ·exact hj.dlt j h k hk
 ·rw [hother j (hj.sub j hL) k hk] at hu
  exact hj.slotS j k u hL hk hu
 ·rw [f1 k (fun e => hk i (List.mem_cons_self ..) (by rw [hdi]; exact e))]
  exact hj.same k fun j h => hk j (List.mem_cons_of_mem _ h)
 ·rcases mem_cons_cases h with rfl | h
  ·exact hpend
  ·exact hpend' j h hjl
 ·intro j q o' o'' k k' u u' b h1 h2 h3 h4 h5 h6 h7 h8 h9 h10 h11 h12 h13 h14
  rcases mem_cons_cases h1 with rfl | m1 <;> rcases mem_cons_cases h2 with rfl | m2
  ·rfl
  ·rw [ho] at h5; cases h5
   have := hfar q o'' k' u' b m2 h4 h6 h8 h10 h12 h14
   have e := (f2 k (by rw [← hdi]; exact h9)).2
   rw [e] at h11; cases h11
   have := hblk b h13 h7
   omega
  ·rw [ho] at h6; cases h6
   have := hfar j o' k u b m1 h3 h5 h7 h9 h11 h13
   have e := (f2 k' (by rw [← hdi]; exact h10)).2
   rw [e] at h12; cases h12
   have := hblk b h14 h8
   omega
  ·rw [hother j m1 k h9] at h11
   rw [hother q m2 k' h10] at h12
   exact hj.apart j q o' o'' k k' u u' b m1 m2 h3 h4 h5 h6 h7 h8 h9 h10 h11 h12 h13 h14

/-- Abstractly a block is laid; the machine lays it later. -/
theorem Inv.ahead_core (hi : Inv ρ σ w) (ob : AObj) : InvC ρ (σ.alloc ob) w ∧ Stp ρ σ w ρ (σ.alloc ob) w ∧ ∀ b o, σ.m.get b = some o → (σ.alloc ob).m.get b = some o := by
 have hnone : ρ σ.next = none := (hi.fresh _ (Nat.le_refl _)).1
 have hget : ∀ b, b ≠ σ.next → (σ.alloc ob).m.get b = σ.m.get b := fun b hb => PT.get_put_other _ _ _ _ hb
 have back : ∀ b o l, (σ.alloc ob).m.get b = some o → ρ b = some l → σ.m.get b = some o := fun b o l h hl => by
  by_cases e : b = σ.next
  ·subst e; rw [hnone] at hl; cases hl
  ·rw [hget b e] at h; exact h
 refine ⟨⟨fun b hb => ?_, hi.blk, fun b o l h hl => hi.obj b o l (back b o l h hl) hl, fun b b' o o' l l' h1 h2 h3 h4 => hi.inj b b' o o' l l' (back b o l h1 h3) (back b' o' l' h2 h4) h3 h4⟩, ⟨fun _ _ => rfl, ?_, Nat.le_refl _, fun _ _ _ => rfl, ?_, rfl, rfl, rfl⟩, fun b o h => ?_⟩
 ·have hb' : σ.next.num + 1 ≤ b.num := by simpa [AHeap.alloc, Pos.num_succ] using hb
  have hne : b ≠ σ.next := fun e => by subst e; omega
  rw [hget b hne]
  exact hi.fresh b (by omega)
 ·simp [AHeap.alloc, Pos.num_succ]
 ·rintro r ⟨b, o, l, h1, h2, h3, rfl⟩ _
  exact ⟨b, o, l, back b o l h1 h3, h2, h3, rfl⟩
 ·by_cases e : b = σ.next
  ·subst e; rw [(hi.fresh _ (Nat.le_refl _)).2] at h; cases h
  ·rw [hget b e]; exact h
theorem Inv.ahead (hi : Inv ρ σ w) (ob : AObj) : Inv ρ (σ.alloc ob) w ∧ Stp ρ σ w ρ (σ.alloc ob) w ∧ ∀ b o, σ.m.get b = some o → (σ.alloc ob).m.get b = some o :=
 let ⟨h1, h2, h3⟩ := hi.ahead_core ob; ⟨⟨h1, hi.old.of h2⟩, h2, h3⟩
theorem AHeap.get_alloc (σ : AHeap) (ob : AObj) : (σ.alloc ob).m.get σ.next = some ob := PT.get_put_same _ _ _

/-- The plan's next operation turns no memory: the plan takes it. -/
theorem J.light (hs : Shape P ops A) {i : Nat} {rc : List Nat} (hj : J P G ih ops A n d fin ρ₀ σ₀ w₀ t₀ ((i, rc) :: l) done t σ listed ρ w a) (hl : isHeavy P ops i = false) (hfin : ∀ k, fin ≠ .err k) :
  ∃ t₁ σ₁, J P G ih ops A n d fin ρ₀ σ₀ w₀ t₀ l (i :: done) t₁ σ₁ listed ρ w a := by
 obtain ⟨hh, hok⟩ := hj.ok
 obtain ⟨o, ho⟩ : ∃ o, ops[i]? = some o := ⟨ops[i]'hh.lt, Array.getElem?_eq_getElem hh.lt⟩
 have hrun : (match ops[i]? with
   | some o => oneX P G ih false ops n o t σ (fun t' σ' => bif stillAll P G ops t' σ' rc then planX P G ih ops n d l t' σ' else .err 86)
   | none => .err 87) = fin := hj.run
 rw [ho] at hrun
 dsimp only at hrun
 have hhead := hj.head_slots hs ho hh.new
 have hcont : ∀ t₁ σ₁, (bif stillAll P G ops t₁ σ₁ rc then planX P G ih ops n d l t₁ σ₁ else .err 86) = fin → planX P G ih ops n d l t₁ σ₁ = fin := fun t₁ σ₁ h => by
  rw [ite_cond] at h
  split at h
  ·exact h
  ·exact absurd h.symm (hfin 86)
 -- the slots that it looks at are not turned by its own result
 have hanc : ∀ {v : AV} {t₁ : PT AV}, putT t n o.dst v = some t₁ → ∀ k ∈ slotsOf ops o, ∀ j, anc A i j = true → dstOf ops j = some k → t.get (posOf k) = t₁.get (posOf k) := fun hp k hk j ha hjk => by
  refine ((putT_facts hp).1 k fun e => ?_).symm
  have := hs.uniq i j k (by rw [dstOf_eq ho]; exact e) hjk
  subst this
  exact hh.new (anc_done hs hh.lt hh.dep hj.dclosed i hh.lt ha)
 unfold oneX at hrun
 cases hw : wantedA ops t o with
 | none => rw [hw] at hrun; exact absurd hrun.symm (hfin 85)
 | some bw =>
  rw [hw] at hrun
  cases bw with
  | false =>
   dsimp only at hrun
   cases hp : putT t n o.dst unit with
   | none => rw [hp] at hrun; exact absurd hrun.symm (hfin 84)
   | some t₁ =>
    rw [hp] at hrun
    refine ⟨t₁, σ, hj.ahead hs hl ho hp (hcont _ _ hrun) hj.inv (Stp.refl _ _ _) (fun _ _ h => h) (fun b hb => by cases hb) ?_⟩
    exact ⟨o, t, ho, hanc hp, hhead, false, hw, fun _ k hk => ((putT_facts hp).2 k hk).2, fun h => by cases h⟩
  | true =>
   dsimp only at hrun
   have main : ∀ (v : AV) (σ₁ : AHeap), effX P G ih (opX P G (evalT G t) σ o.op) = .ret v σ₁ → Inv ρ σ₁ w → Stp ρ σ w ρ σ₁ w → (∀ b o, σ.m.get b = some o → σ₁.m.get b = some o) →
     (∀ b, blk v = some b → kindOf P o.op = .alloc → σ.next.num ≤ b.num) → (∀ t₁, (∀ k, o.dst = some k → t₁.get (posOf k) = some v) → PendV P G t₁ σ₁ ρ σ₀.next.num t o) →
     ∃ t₁ σ₁, J P G ih ops A n d fin ρ₀ σ₀ w₀ t₀ l (i :: done) t₁ σ₁ listed ρ w a := by
    intro v σ₁ he hinv hst hget hblk hpv
    rw [he] at hrun
    dsimp only at hrun
    cases hp : putT t n o.dst v with
    | none => rw [hp] at hrun; exact absurd hrun.symm (hfin 80)
    | some t₁ =>
     rw [hp] at hrun
     refine ⟨t₁, σ₁, hj.ahead hs hl ho hp (hcont _ _ hrun) hinv hst hget hblk ?_⟩
     exact ⟨o, t, ho, hanc hp, hhead, true, hw, fun h => (by cases h), fun _ => hpv t₁ fun k hk => ((putT_facts hp).2 k hk).2⟩
   cases hk : kindOf P o.op with
   | heavy => simp [isHeavy, heavyK, ho, hk] at hl
   | pure =>
    cases hv : pureA P (evalT G t) o.op with
    | none =>
     have : effX P G ih (opX P G (evalT G t) σ o.op) = .err (Nat.add 1000 (opTag o.op)) := by unfold opX; rw [hk]; dsimp only; rw [hv]; rfl
     rw [this] at hrun
     exact absurd hrun.symm (hfin _)
    | some v =>
     have : effX P G ih (opX P G (evalT G t) σ o.op) = .ret v σ := by unfold opX; rw [hk]; dsimp only; rw [hv]; rfl
     refine main v σ this hj.inv (Stp.refl _ _ _) (fun _ _ h => h) (fun b _ h => by rw [hk] at h; cases h) fun t₁ ht₁ => ?_
     unfold PendV; rw [hk]; exact ⟨v, hv, ht₁⟩
   | read =>
    cases hv : readA P (evalT G t) σ o.op with
    | none =>
     have : effX P G ih (opX P G (evalT G t) σ o.op) = .err (Nat.add 2000 (opTag o.op)) := by unfold opX; rw [hk]; dsimp only; rw [hv]; rfl
     rw [this] at hrun
     exact absurd hrun.symm (hfin _)
    | some v =>
     have : effX P G ih (opX P G (evalT G t) σ o.op) = .ret v σ := by unfold opX; rw [hk]; dsimp only; rw [hv]; rfl
     refine main v σ this hj.inv (Stp.refl _ _ _) (fun _ _ h => h) (fun b _ h => by rw [hk] at h; cases h) fun t₁ ht₁ => ?_
     unfold PendV; rw [hk]; exact ⟨v, hv, ht₁⟩
   | alloc =>
    cases hv : allocA P (evalT G t) o.op with
    | none =>
     have : effX P G ih (opX P G (evalT G t) σ o.op) = .err (Nat.add 3000 (opTag o.op)) := by unfold opX; rw [hk]; dsimp only; rw [hv]; rfl
     rw [this] at hrun
     exact absurd hrun.symm (hfin _)
    | some p =>
     obtain ⟨ob, mk⟩ := p
     have : effX P G ih (opX P G (evalT G t) σ o.op) = .ret (mk.of σ.next) (σ.alloc ob) := by unfold opX; rw [hk]; dsimp only; rw [hv]; rfl
     obtain ⟨g1, g2, g3⟩ := hj.inv.ahead ob
     refine main _ _ this g1 g2 g3 (fun b hb _ => by rw [blk_of] at hb; cases hb; exact Nat.le_refl _) fun t₁ ht₁ => ?_
     unfold PendV; rw [hk]
     exact ⟨ob, mk, σ.next, hv, AHeap.get_alloc σ ob, (hj.inv.fresh _ (Nat.le_refl _)).1, hj.stp.next, by simp [AHeap.alloc, Pos.num_succ], ht₁⟩

/-- The plan goes on till an operation that turns memory, or its end. -/
theorem J.advance (hs : Shape P ops A) (hfin : ∀ k, fin ≠ .err k) : ∀ (l : List (Nat × List Nat)) (done : List Nat) (t : PT AV) (σ : AHeap), J P G ih ops A n d fin ρ₀ σ₀ w₀ t₀ l done t σ listed ρ w a →
  ∃ l' done' t' σ', J P G ih ops A n d fin ρ₀ σ₀ w₀ t₀ l' done' t' σ' listed ρ w a ∧ (l' = [] ∨ ∃ i rc r, l' = (i, rc) :: r ∧ isHeavy P ops i = true)
 | [], done, t, σ, hj => ⟨[], done, t, σ, hj, .inl rfl⟩
 | (i, rc) :: l, done, t, σ, hj => by
  cases hl : isHeavy P ops i with
  | true => exact ⟨_, done, t, σ, hj, .inr ⟨i, rc, l, rfl, hl⟩⟩
  | false =>
   obtain ⟨t₁, σ₁, hj₁⟩ := hj.light hs hl hfin
   exact J.advance hs hfin l _ t₁ σ₁ hj₁
end
end Go.Ev

/- Regions that draw their order: the machine's steps, and the theorem. -/
namespace Go.Ev
variable [Env]
section
variable {P : Program} {G : Cx} {ih : IhC} {ops : Array Oper} {A : Array Nat} {n : Nat} {d : List DE} {fin : CR} {ρ₀ : Ren} {σ₀ : AHeap} {w₀ : World} {t₀ : PT AV}
variable {l : List (Nat × List Nat)} {done : List Nat} {t : PT AV} {σ : AHeap} {listed : Array Bool} {ρ : Ren} {w : World} {a : Act}

/-- The machine takes an operation that the plan has taken. -/
theorem J.behind (hs : Shape P ops A) (hj : J P G ih ops A n d fin ρ₀ σ₀ w₀ t₀ l done t σ listed ρ w a) {i : Nat} {o : Oper} {x : Value} {ρ₁ : Ren} {w₁ : World} (ho : ops[i]? = some o) (hid : i ∈ done) (hn : ¬ Li listed i)
  (hr : ∀ j, j < ops.size → anc A i j = true → Li listed j) (hv : ∀ k v, o.dst = some k → t.get (posOf k) = some v → VR ρ₁ v x) (hinv : Inv ρ₁ σ w₁) (hst : Stp ρ₀ σ₀ w₀ ρ₁ σ w₁) (hle : ρ.le ρ₁)
  (hren : ∀ j ∈ done, ¬ Li listed j → j ≠ i → Pend P G ops A t₀ t σ ρ₁ σ₀.next.num j) : J P G ih ops A n d fin ρ₀ σ₀ w₀ t₀ l done t σ (listed.setIfInBounds i true) ρ₁ w₁ (a.put o.dst x) := by
 have hil : i < listed.size := by rw [hj.lsz]; exact hj.bnd i hid
 have hdi : dstOf ops i = o.dst := dstOf_eq ho
 obtain ⟨p1, p2, p3⟩ := put_at (a := a) (dst := o.dst) (x := x)
 have hset : ∀ {j}, Li (listed.setIfInBounds i true) j ↔ j = i ∨ Li listed j := Li_set hil
 refine ⟨hj.run, hj.ok, hinv, hst, by rw [put_defers]; exact hj.dr.mono hle, hj.gr.mono hle, by rw [p3]; exact hj.tsz, by simpa using hj.lsz, hj.bnd, hj.ord, fun j h => ?_, fun j h hh => hset.2 (.inr (hj.heavy j h hh)), fun j q hq h ha => ?_, hj.dclosed, hj.dlt,
  fun j k v h hk hu => ?_, fun k v h hu => ?_, hj.same, fun j h hl => ?_, ?_⟩
 ·rcases hset.1 h with rfl | h
  ·exact hid
  ·exact hj.sub j h
 ·rcases hset.1 h with rfl | h
  ·exact hset.2 (.inr (hr q hq ha))
  ·exact hset.2 (.inr (hj.closed j q hq h ha))
 ·by_cases e : j = i
  ·subst e
   rw [hdi] at hk
   rw [p2 k hk (by rw [hj.tsz]; exact hj.dlt j hid k (by rw [hdi]; exact hk))]
   exact hv k v hk hu
  ·have hL := (hset.1 h).resolve_left e
   rw [p1 k (fun e' => e (hs.uniq j i k hk (by rw [hdi]; exact e')))]
   exact VR.mono hle _ _ (hj.slotS j k v hL hk hu)
 ·rw [p1 k (fun e' => h i (hset.2 (.inl rfl)) (by rw [hdi]; exact e'))]
  obtain ⟨q1, q2⟩ := hj.slot0 k v (fun j hL => h j (hset.2 (.inr hL))) hu
  exact ⟨q1, VR.mono hle _ _ q2⟩
 ·exact hren j h (fun hL => hl (hset.2 (.inr hL))) (fun e => hl (hset.2 (.inl e)))
 ·intro j q o' o'' k k' u u' b h1 h2 h3 h4
  exact hj.apart j q o' o'' k k' u u' b h1 h2 (fun hL => h3 (hset.2 (.inr hL))) (fun hL => h4 (hset.2 (.inr hL)))

theorem stillAll_mem {t₁ : PT AV} {σ₁ : AHeap} : ∀ {rc : List Nat} {j : Nat}, stillAll P G ops t₁ σ₁ rc = true → j ∈ rc → stillX P G ops t₁ σ₁ j = true
 | [], j, _, hj => by cases hj
 | i :: rc, j, h, hj => by
  have h' : (bif stillX P G ops t₁ σ₁ i then stillAll P G ops t₁ σ₁ rc else false) = true := h
  rw [ite_cond] at h'
  split at h'
  ·rename_i hi
   rcases mem_cons_cases hj with rfl | hj
   ·exact hi
   ·exact stillAll_mem h' hj
  ·cases h'

/-- Plan and machine take an operation that turns memory. -/
theorem J.turn (hs : Shape P ops A) {i : Nat} {rc : List Nat} (hj : J P G ih ops A n d fin ρ₀ σ₀ w₀ t₀ ((i, rc) :: l) done t σ listed ρ w a) (hl : isHeavy P ops i = true) {o : Oper} (ho : ops[i]? = some o)
  (hr : ∀ j, j < ops.size → anc A i j = true → Li listed j) {v : AV} {x : Value} {t₁ : PT AV} {σ₁ : AHeap} {ρ₁ : Ren} {w₁ : World} (hp : putT t n o.dst v = some t₁) (hstill : stillAll P G ops t₁ σ₁ rc = true) (hrun : planX P G ih ops n d l t₁ σ₁ = fin)
  (hv : VR ρ₁ v x) (hinv : Inv ρ₁ σ₁ w₁) (hst : Stp ρ σ w ρ₁ σ₁ w₁) : J P G ih ops A n d fin ρ₀ σ₀ w₀ t₀ l (i :: done) t₁ σ₁ (listed.setIfInBounds i true) ρ₁ w₁ (a.put o.dst x) := by
 obtain ⟨hh, hok⟩ := hj.ok
 obtain ⟨f1, f2⟩ := putT_facts hp
 have hle := hst.le hj.inv
 have hil : i < listed.size := by rw [hj.lsz]; exact hh.lt
 have hdi : dstOf ops i = o.dst := dstOf_eq ho
 obtain ⟨p1, p2, p3⟩ := put_at (a := a) (dst := o.dst) (x := x)
 have hset : ∀ {j}, Li (listed.setIfInBounds i true) j ↔ j = i ∨ Li listed j := Li_set hil
 have hnL : ¬ Li listed i := fun h => hh.new (hj.sub i h)
 have hother : ∀ j ∈ done, ∀ k, dstOf ops j = some k → t₁.get (posOf k) = t.get (posOf k) := fun j hjd k hk => f1 k fun e => by
  have := hs.uniq i j k (by rw [hdi]; exact e) hk
  subst this; exact hh.new hjd
 refine ⟨hrun, hok, hinv, hj.stp.trans hst, by rw [put_defers]; exact hj.dr.mono hle, hj.gr.mono hle, by rw [p3]; exact hj.tsz, by simpa using hj.lsz, fun j h => ?_, ⟨hh.dep, hj.ord⟩, fun j h => ?_, fun j h hv => ?_, fun j q hq h ha => ?_, fun j q hq h ha => ?_, fun j h k hk => ?_,
  fun j k u h hk hu => ?_, fun k u h hu => ?_, fun k hk => ?_, fun j h hjl => ?_, ?_⟩
 ·rcases mem_cons_cases h with rfl | h
  ·exact hh.lt
  ·exact hj.bnd j h
 ·rcases hset.1 h with rfl | h
  ·exact List.mem_cons_self ..
  ·exact List.mem_cons_of_mem _ (hj.sub j h)
 ·rcases mem_cons_cases h with rfl | h
  ·exact hset.2 (.inl rfl)
  ·exact hset.2 (.inr (hj.heavy j h hv))
 ·rcases hset.1 h with rfl | h
  ·exact hset.2 (.inr (hr q hq ha))
  ·exact hset.2 (.inr (hj.closed j q hq h ha))
 ·rcases mem_cons_cases h with rfl | h
  ·exact List.mem_cons_of_mem _ (anc_done hs hh.lt hh.dep hj.dclosed q hq ha)
  ·exact List.mem_cons_of_mem _ (hj.dclosed j q hq h ha)
 ·rcases mem_cons_cases h with rfl | h
  ·exact (f2 k (by rw [← hdi]; exact hk)).1
  ·exact hj.dlt j h k hk
 ·by_cases e : j = i
  ·subst e
   rw [hdi] at hk
   obtain ⟨q1, q2⟩ := f2 k hk
   rw [p2 k hk (by rw [hj.tsz]; exact q1)]
   rw [q2] at hu; cases hu
   exact hv
  ·have hL := (hset.1 h).resolve_left e
   rw [p1 k (fun e' => e (hs.uniq j i k hk (by rw [hdi]; exact e')))]
   rw [hother j (hj.sub j hL) k hk] at hu
   exact VR.mono hle _ _ (hj.slotS j k u hL hk hu)
 ·rw [p1 k (fun e' => h i (hset.2 (.inl rfl)) (by rw [hdi]; exact e'))]
  obtain ⟨q1, q2⟩ := hj.slot0 k u (fun j hL => h j (hset.2 (.inr hL))) hu
  exact ⟨q1, VR.mono hle _ _ q2⟩
 ·rw [f1 k (fun e => hk i (List.mem_cons_self ..) (by rw [hdi]; exact e))]
  exact hj.same k fun j h => hk j (List.mem_cons_of_mem _ h)
 ·have hji : j ≠ i := fun e => hjl (hset.2 (.inl e))
  have hjL : ¬ Li listed j := fun hL => hjl (hset.2 (.inr hL))
  have hjd : j ∈ done := (mem_cons_cases h).resolve_left hji
  refine (hj.pend j hjd hjL).again hs (fun k hk => ?_) (fun k hk => ?_) (fun hlm => ?_) (fun b hb => hst.ext b hb) hst.next
  ·rcases hk with hk | ⟨q, hq, hk⟩
   ·exact hother j hjd k hk
   ·exact hother q (hj.dclosed j q (dstOf_lt hk) hjd hq) k hk
  ·rw [f1 k (fun e => hk i (by rw [hdi]; exact e))]
   exact hj.same k fun j _ => hk j
  ·rcases hh.again hl j hjd hlm with ha | hm
   ·exact absurd (hr j (hj.bnd j hjd) ha) hjL
   ·exact stillAll_mem hstill hm
 ·intro j q o' o'' k k' u u' b h1 h2 h3 h4 h5 h6 h7 h8 h9 h10 h11 h12 h13 h14
  have m1 : j ∈ done := (mem_cons_cases h1).resolve_left fun e => h3 (hset.2 (.inl e))
  have m2 : q ∈ done := (mem_cons_cases h2).resolve_left fun e => h4 (hset.2 (.inl e))
  rw [hother j m1 k h9] at h11
  rw [hother q m2 k' h10] at h12
  exact hj.apart j q o' o'' k k' u u' b m1 m2 (fun hL => h3 (hset.2 (.inr hL))) (fun hL => h4 (hset.2 (.inr hL))) h5 h6 h7 h8 h9 h10 h11 h12 h13 h14

/-! What is ready. -/
theorem ready_to {i : Nat} (hsz : listed.size = ops.size) (h : i ∈ Region.ready .any ops listed) : i < ops.size ∧ ¬ Li listed i ∧ ∀ j, waits ops i j = true → Li listed j := by
 obtain ⟨h1, o, ho, h2⟩ := mem_ready.1 h
 have hlt := (Array.getElem?_eq_some_iff.1 ho).1
 refine ⟨hlt, (not_Li (by rw [hsz]; exact hlt)).1 h1, fun j hw => ?_⟩
 obtain ⟨o', ho', e, he, hb, rfl⟩ := waits_iff.1 hw
 rw [ho] at ho'; cases ho'
 exact h2 e he hb
theorem ready_of {i : Nat} (hsz : listed.size = ops.size) (hlt : i < ops.size) (hn : ¬ Li listed i) (hw : ∀ j, waits ops i j = true → Li listed j) : i ∈ Region.ready .any ops listed :=
 mem_ready.2 ⟨(not_Li (by rw [hsz]; exact hlt)).2 hn, ops[i]'hlt, Array.getElem?_eq_getElem hlt, fun e he hb => hw _ (waits_iff.2 ⟨_, Array.getElem?_eq_getElem hlt, e, he, hb, rfl⟩)⟩

theorem ord_first : ∀ {done : List Nat}, Ord ops done → (∃ i ∈ done, ¬ Li listed i) → ∃ i ∈ done, ¬ Li listed i ∧ ∀ j, waits ops i j = true → Li listed j
 | [], _, ⟨i, hi, _⟩ => by cases hi
 | i :: r, ho, ⟨q, hq, hn⟩ => by
  by_cases hr : ∃ j ∈ r, ¬ Li listed j
  ·obtain ⟨j, h1, h2, h3⟩ := ord_first ho.2 hr
   exact ⟨j, List.mem_cons_of_mem _ h1, h2, h3⟩
  ·have hall : ∀ j ∈ r, Li listed j := fun j hj => Classical.byContradiction fun h => hr ⟨j, hj, h⟩
   rcases mem_cons_cases hq with rfl | hq
   ·exact ⟨q, List.mem_cons_self .., hn, fun j hw => hall j (ho.1 j hw)⟩
   ·exact absurd (hall q hq) hn

theorem J.all (hs : Shape P ops A) (hj : J P G ih ops A n d fin ρ₀ σ₀ w₀ t₀ l done t σ listed ρ w a) (hr : Region.ready .any ops listed = []) : ∀ i, i < ops.size → Li listed i := by
 have hall : ∀ i ∈ done, Li listed i := fun i hi => Classical.byContradiction fun h => by
  obtain ⟨q, h1, h2, h3⟩ := ord_first hj.ord ⟨i, hi, h⟩
  have := ready_of hj.lsz (hj.bnd q h1) h2 h3
  rw [hr] at this; cases this
 intro i hi
 cases l with
 | nil =>
  have := hj.ok
  exact hall i (this i hi)
 | cons p l =>
  obtain ⟨q, rc⟩ := p
  obtain ⟨hh, _⟩ := hj.ok
  have := ready_of (listed := listed) hj.lsz hh.lt (fun h => hh.new (hj.sub q h)) (fun j hw => hall j (hh.dep j hw))
  rw [hr] at this; cases this

theorem J.finish (hs : Shape P ops A) (hj : J P G ih ops A n d fin ρ₀ σ₀ w₀ t₀ l done t σ listed ρ w a) (hall : ∀ i, i < ops.size → Li listed i) : fin = .ok .normal t d σ ∧ TR ρ t n a.tmps := by
 cases l with
 | nil =>
  refine ⟨hj.run.symm, hj.tsz, fun k v hv => ?_⟩
  by_cases hw : ∃ i, dstOf ops i = some k
  ·obtain ⟨i, hi⟩ := hw
   have hL := hall i (dstOf_lt hi)
   exact ⟨hj.dlt i (hj.sub i hL) k hi, hj.slotS i k v hL hi hv⟩
  ·rw [hj.same k fun i _ hi => hw ⟨i, hi⟩] at hv
   exact hj.slot0 k v (fun i _ hi => hw ⟨i, hi⟩) hv
 | cons p l =>
  obtain ⟨q, rc⟩ := p
  obtain ⟨hh, _⟩ := hj.ok
  exact absurd (hj.sub q (hall q hh.lt)) hh.new

/-! So many are left. -/
def left (N : Nat) (listed : Array Bool) : Nat := (List.range N).countP fun i => !listed.getD i false
theorem countP_lt {α : Type} {p q : α → Bool} : ∀ {l : List α} {x : α}, (∀ y ∈ l, q y = true → p y = true) → x ∈ l → p x = true → q x = false → l.countP q < l.countP p
 | [], x, _, hx, _, _ => by cases hx
 | y :: l, x, h, hx, hp, hq => by
  have hle : l.countP q ≤ l.countP p := List.countP_mono_left fun z hz => h z (List.mem_cons_of_mem _ hz)
  rcases mem_cons_cases hx with rfl | hx
  ·simp [List.countP_cons, hp, hq]; omega
  ·have := countP_lt (fun z hz => h z (List.mem_cons_of_mem _ hz)) hx hp hq
   rw [List.countP_cons, List.countP_cons]
   cases hy : q y with
   | false => simp; omega
   | true => rw [h y (List.mem_cons_self ..) hy]; simp; omega
theorem left_set {N i : Nat} (hi : i < N) (hsz : listed.size = N) (hn : ¬ Li listed i) : left N (listed.setIfInBounds i true) < left N listed := by
 refine countP_lt (x := i) (fun y _ hy => ?_) (List.mem_range.2 hi) ?_ ?_
 ·by_cases h : Li listed y
  ·have : Li (listed.setIfInBounds i true) y := (Li_set (by rw [hsz]; exact hi)).2 (.inr h)
   unfold Li at this
   rw [this] at hy; cases hy
  ·unfold Li at h; simpa using h
 ·unfold Li at hn; simpa using hn
 ·have : Li (listed.setIfInBounds i true) i := (Li_set (by rw [hsz]; exact hi)).2 (.inl rfl)
  unfold Li at this
  rw [this]; rfl
theorem left_zero {N : Nat} (h : left N listed = 0) : ∀ i, i < N → Li listed i := fun i hi => by
 have := List.countP_eq_zero.1 h i (List.mem_range.2 hi)
 unfold Li
 simpa using this

/-- The machine lays a block that the plan has laid. -/
theorem Inv.lay (hi : Inv ρ σ w) {b : Pos} {l : Loc} {ob : AObj} {x : Obj} (hb : σ.m.get b = some ob) (hn : ρ b = none) (hlt : b.num < σ.next.num) (hl : l.blk = w.heap.size) (ho : ObjR ρ l ob x) : Inv (ρ.with b l) σ (w.alloc x) ∧ ρ.le (ρ.with b l) := by
 have hle : ρ.le (ρ.with b l) := fun b' l' hb' => by
  rw [Ren.with_other]; · exact hb'
  ·intro e; subst e; rw [hn] at hb'; cases hb'
 have hold : ∀ b' l', b' ≠ b → (ρ.with b l) b' = some l' → ρ b' = some l' := fun b' l' hne h => by rwa [Ren.with_other ρ l hne] at h
 have hold2 : Old (ρ.with b l) σ (w.alloc x) := by
  refine ⟨by have := hi.old.size; simp; omega, fun r hr => by rw [heap_alloc_old w x (Nat.lt_of_lt_of_le hr hi.old.size)]; exact hi.old.same r hr, fun r hr ⟨b', o', l', h1, h2, h3, h4⟩ => ?_⟩
  by_cases e : b' = b
  ·subst e
   rw [Ren.with_same] at h3; cases h3
   have := hi.old.size
   omega
  ·exact hi.old.no r hr ⟨b', o', l', h1, h2, hold b' l' e h3, h4⟩
 refine ⟨⟨⟨fun b' hb' => ?_, fun b' l' hb' => ?_, fun b' o' l' hb' hl' => ?_, fun b₁ b₂ o₁ o₂ l₁ l₂ h1 h2 h3 h4 h5 h6 => ?_⟩, hold2⟩, hle⟩
 ·have hne : b' ≠ b := fun e => by subst e; omega
  rw [Ren.with_other ρ l hne]
  exact hi.fresh b' hb'
 ·simp only [World.size_alloc]
  by_cases e : b' = b
  ·subst e; rw [Ren.with_same] at hb'; cases hb'; omega
  ·have := hi.blk b' l' (hold b' l' e hb'); omega
 ·by_cases e : b' = b
  ·subst e
   rw [Ren.with_same] at hl'; cases hl'
   rw [hb] at hb'; cases hb'
   exact ⟨x, by rw [hl]; exact heap_alloc_new w x, ho.mono hle⟩
  ·have h' := hold b' l' e hl'
   obtain ⟨y, hy, hr⟩ := hi.obj b' o' l' hb' h'
   exact ⟨y, by rw [heap_alloc_old w x (hi.blk b' l' h')]; exact hy, hr.mono hle⟩
 ·by_cases e1 : b₁ = b <;> by_cases e2 : b₂ = b
  ·exact absurd (e1.trans e2.symm) h6
  ·subst e1
   rw [Ren.with_same] at h3; cases h3
   have := hi.blk b₂ l₂ (hold b₂ l₂ e2 h4); omega
  ·subst e2
   rw [Ren.with_same] at h4; cases h4
   have := hi.blk b₁ l₁ (hold b₁ l₁ e1 h3); omega
  ·exact hi.inj b₁ b₂ o₁ o₂ l₁ l₂ h1 h2 (hold b₁ l₁ e1 h3) (hold b₂ l₂ e2 h4) h5 h6
theorem Stp.lay (hst : Stp ρ₀ σ₀ w₀ ρ σ w) {b : Pos} {l : Loc} {x : Obj} (hlo : σ₀.next.num ≤ b.num) (hl : l.blk = w.heap.size) : Stp ρ₀ σ₀ w₀ (ρ.with b l) σ (w.alloc x) := by
 refine ⟨fun b' hb' => ?_, hst.next, by have := hst.size; simp; omega, fun r hr hn => ?_, ?_, hst.tape, hst.os, hst.out⟩
 ·rw [Ren.with_other ρ l (fun e => by subst e; omega)]
  exact hst.ext b' hb'
 ·rw [heap_alloc_old w x (by have := hst.size; omega)]
  exact hst.frame r hr hn
 ·rintro r ⟨b', o', l', h1, h2, h3, rfl⟩ hr
  by_cases e : b' = b
  ·subst e; rw [Ren.with_same] at h3; cases h3; have := hst.size; omega
  ·rw [Ren.with_other ρ l e] at h3
   exact hst.wr _ ⟨b', o', l', h1, h2, h3, rfl⟩ hr

/-- An operation that the machine has still to take, and that the plan has taken. -/
theorem J.take (hs : Shape P ops A) (hj : J P G ih ops A n d fin ρ₀ σ₀ w₀ t₀ l done t σ listed ρ w a) {i : Nat} (hid : i ∈ done) (hn : ¬ Li listed i) (hw : ∀ j, waits ops i j = true → Li listed j) (rl : Option Nat) (m : Nat) {Q : Exit → Act → World → Prop} {K : Act → World → Prop}
  (hK : ∀ ρ₁ w₁ a₁, J P G ih ops A n d fin ρ₀ σ₀ w₀ t₀ l done t σ (listed.setIfInBounds i true) ρ₁ w₁ a₁ → K a₁ w₁) : wpOpIn (fenc rl) m P ops Q i K a w := by
 have hr := anc_listed hs (hj.bnd i hid) hw hj.closed
 obtain ⟨o, ti, ho, h1, h2, bw, h3, h4, h5⟩ := hj.pend i hid hn
 have hlook := hj.look hs ho hn hr h1 h2
 unfold wpOpIn
 rw [ho]
 dsimp only
 rw [look_wanted hj.tsz hlook h3]
 cases bw with
 | false =>
  simp only [Bool.false_eq_true, if_false]
  exact ⟨fun f _ => fenc_fn rl f, hK ρ w _ (hj.behind hs ho hid hn hr (fun k v hk hv => by rw [h4 rfl k hk] at hv; cases hv; exact VR_unit) hj.inv hj.stp (fun _ _ h => h) fun j hjd hjl _ => hj.pend j hjd hjl)⟩
 | true =>
  simp only [if_true]
  have hE : ER ρ (evalT G ti) a.eval o.op := look_ER hj.gr hlook
  have hv := h5 rfl
  unfold PendV at hv
  have hnd : kindOf P o.op ≠ .heavy → ∀ c, o.op ≠ .defer c := fun hk c e => hk (by rw [e]; rfl)
  unfold Oper.wpIn
  refine ⟨fun f _ => fenc_fn rl f, ?_⟩
  cases hk : kindOf P o.op with
  | heavy => rw [hk] at hv; exact hv.elim
  | pure =>
   rw [hk] at hv
   obtain ⟨v, g1, g2⟩ := hv
   obtain ⟨x, hx, hvx⟩ := pure_sound (P := P) (w := w) hE g1
   rw [Oper.semAt_eq _ _ _ (hnd (by rw [hk]; simp)), hx, Oper.uponIn_value]
   exact hK ρ w _ (hj.behind hs ho hid hn hr (fun k u hk hu => by rw [g2 k hk] at hu; cases hu; exact hvx) hj.inv hj.stp (fun _ _ h => h) fun j hjd hjl _ => hj.pend j hjd hjl)
  | read =>
   rw [hk] at hv
   obtain ⟨v, g1, g2⟩ := hv
   obtain ⟨x, hx, hvx⟩ := read_sound (P := P) hj.inv hE g1
   rw [Oper.semAt_eq _ _ _ (hnd (by rw [hk]; simp)), hx, Oper.uponIn_value]
   exact hK ρ w _ (hj.behind hs ho hid hn hr (fun k u hk hu => by rw [g2 k hk] at hu; cases hu; exact hvx) hj.inv hj.stp (fun _ _ h => h) fun j hjd hjl _ => hj.pend j hjd hjl)
  | alloc =>
   rw [hk] at hv
   obtain ⟨ob, mk, b, g1, g2, g3, g4, g5, g6⟩ := hv
   obtain ⟨x, ob', c, hx, hro, hob, hvx⟩ := alloc_sound (P := P) (w := w) hE g1
   rw [Oper.semAt_eq _ _ _ (hnd (by rw [hk]; simp)), hx, Oper.uponIn_value]
   obtain ⟨inv, hle⟩ := hj.inv.lay (l := ⟨w.heap.size, 0, c⟩) g2 g3 g5 rfl hob
   obtain ⟨kd, hkd⟩ := hs.dst i o ho (by simp [looksMem, looksK, ho, hk])
   refine hK _ _ _ (hj.behind hs ho hid hn hr (fun k u hk hu => by rw [g6 k hk] at hu; cases hu; exact hvx _ b (Ren.with_same _ _ _)) inv (hj.stp.lay g4 rfl) hle fun j hjd hjl hji => ?_)
   refine (hj.pend j hjd hjl).ren hs fun b' hb' hb'n => ?_
   obtain ⟨o', k', v', q1, q2, q3, q4, q5⟩ := hb'
   rw [Ren.with_other]
   ·exact hb'n
   ·intro e
    subst e
    exact hji (hj.apart j i o' o k' kd v' (mk.of b') b' hjd hid hjl hn q1 ho q2 hk q3 (by rw [dstOf_eq ho]; exact hkd) q4 (g6 kd hkd) q5 (blk_of mk b'))

theorem draw_any (hs : Shape P ops A) (hS : Sound P G ih) (rl : Option Nat) (m : Nat) {Q : Exit → Act → World → Prop} {e : Ex} {t' : PT AV} {d' : List DE} {σ' : AHeap} (hfin : fin = .ok e t' d' σ')
  (hQ : ∀ (ρ' : Ren) (w' : World) (a' : Act), Inv ρ' σ' w' → Stp ρ₀ σ₀ w₀ ρ' σ' w' → TR ρ' t' n a'.tmps → DR ρ' d' a'.defers → Qx Q ρ' e a' w') :
  ∀ (fuel : Nat) (l : List (Nat × List Nat)) (done : List Nat) (t : PT AV) (σ : AHeap) (listed : Array Bool) (ρ : Ren) (w : World) (a : Act), J P G ih ops A n d fin ρ₀ σ₀ w₀ t₀ l done t σ listed ρ w a → left ops.size listed ≤ fuel →
   wpAnyIn (fenc rl) m P .any ops Q fuel listed a w := by
 have hend : ∀ {l done t σ listed ρ w a}, J P G ih ops A n d fin ρ₀ σ₀ w₀ t₀ l done t σ listed ρ w a → Region.ready .any ops listed = [] → Q .normal a w := fun {l done t σ listed ρ w a} hj hr => by
  obtain ⟨h1, h2⟩ := hj.finish hs (hj.all hs hr)
  rw [hfin] at h1
  cases h1
  exact hQ ρ w a hj.inv hj.stp h2 hj.dr _ rfl
 intro fuel
 induction fuel with
 | zero =>
  intro l done t σ listed ρ w a hj hf
  have hall := left_zero (Nat.le_zero.1 hf)
  have hr : Region.ready .any ops listed = [] := by
   apply List.eq_nil_iff_forall_not_mem.2
   intro i hi
   obtain ⟨h1, h2, _⟩ := ready_to hj.lsz hi
   exact h2 (hall i h1)
  exact ⟨hr, hend hj hr⟩
 | succ fuel ihf =>
  intro l done t σ listed ρ w a hj hf
  refine ⟨fun hr => hend hj hr, fun i hi => ?_⟩
  obtain ⟨l, done, t, σ, hj, hhead⟩ := J.advance hs (fun k => by rw [hfin]; simp) l done t σ hj
  obtain ⟨hlt, hn, hw⟩ := ready_to hj.lsz hi
  have hf' : left ops.size (listed.setIfInBounds i true) ≤ fuel := by have := left_set hlt hj.lsz hn; omega
  by_cases hid : i ∈ done
  ·exact hj.take hs hid hn hw rl m fun ρ₁ w₁ a₁ hj₁ => ihf _ _ _ _ _ _ _ _ hj₁ hf'
  ·-- it is the one that turns memory
   rcases hhead with rfl | ⟨q, rc, r, rfl, hl⟩
   ·have := hj.ok
    exact absurd (this i hlt) hid
   ·obtain ⟨hh, _⟩ := hj.ok
    have hiq : i = q := Classical.byContradiction fun hne => by
     obtain ⟨x, h1, h2⟩ := hh.alone hl i hlt hid hne
     exact h2 (hj.sub x (hw x h1))
    subst hiq
    have hr := anc_listed hs hlt hw hj.closed
    obtain ⟨o, ho⟩ : ∃ o, ops[i]? = some o := ⟨ops[i]'hlt, Array.getElem?_eq_getElem hlt⟩
    have hlook := hj.look hs ho hn hr (ti := t) (fun _ _ _ _ _ => rfl) (hj.head_slots hs ho hh.new)
    have hrun : (match ops[i]? with
     | some o => oneX P G ih false ops n o t σ (fun t' σ' => bif stillAll P G ops t' σ' rc then planX P G ih ops n d r t' σ' else .err 86)
     | none => .err 87) = fin := hj.run
    rw [ho, hfin] at hrun
    dsimp only at hrun
    have hcont : ∀ t₁ σ₁, (bif stillAll P G ops t₁ σ₁ rc then planX P G ih ops n d r t₁ σ₁ else .err 86) = .ok e t' d' σ' → stillAll P G ops t₁ σ₁ rc = true ∧ planX P G ih ops n d r t₁ σ₁ = fin := fun t₁ σ₁ h => by
     rw [ite_cond] at h
     split at h
     ·rename_i hst; exact ⟨hst, by rw [hfin]; exact h⟩
     ·cases h
    unfold oneX at hrun
    unfold wpOpIn
    rw [ho]
    dsimp only
    cases hwa : wantedA ops t o with
    | none => rw [hwa] at hrun; cases hrun
    | some bw =>
     rw [hwa] at hrun
     rw [look_wanted hj.tsz hlook hwa]
     cases bw with
     | false =>
      dsimp only at hrun
      simp only [Bool.false_eq_true, if_false]
      cases hp : putT t n o.dst unit with
      | none => rw [hp] at hrun; cases hrun
      | some t₁ =>
       rw [hp] at hrun
       obtain ⟨c1, c2⟩ := hcont _ _ hrun
       exact ⟨fun f _ => fenc_fn rl f, ihf _ _ _ _ _ _ _ _ (hj.turn hs hl ho hr hp c1 c2 VR_unit hj.inv (Stp.refl _ _ _)) hf'⟩
     | true =>
      dsimp only at hrun
      simp only [if_true]
      cases he : effX P G ih (opX P G (evalT G t) σ o.op) with
      | err k => rw [he] at hrun; cases hrun
      | pan v σ₁ => rw [he] at hrun; cases hrun
      | ret v σ₁ =>
       rw [he] at hrun
       dsimp only at hrun
       cases hp : putT t n o.dst v with
       | none => rw [hp] at hrun; cases hrun
       | some t₁ =>
        rw [hp] at hrun
        obtain ⟨c1, c2⟩ := hcont _ _ hrun
        exact one_wpIn hS hj.inv hj.gr (look_ER hj.gr hlook) he rl m fun ρ₁ w₁ x inv st hv => ihf _ _ _ _ _ _ _ _ (hj.turn hs hl ho hr hp c1 c2 hv inv st) hf'
end
end Go.Ev

/- The evaluator's code is the machine's; a call's answer. -/
namespace Go.Ev
variable [Env]
section
variable {P : Program} {G : Cx}

theorem stepR_scope {b : Frame} {a : Act} {k : List Item} {cs : List Frame} {w : World} {c : Code} : step P (lone (b.atR a (.code (.scope c) :: k)) cs w) = .next (lone (b.atR a (.code c :: .inScope c :: k)) cs w) :=
 step_lone_go (by simp [stepG, stepG.exec, Frame.atR])
theorem stepR_inScope {b : Frame} {a : Act} {k : List Item} {cs : List Frame} {w : World} {c : Code} : step P (lone (b.atR a (.inScope c :: k)) cs w) = .next (lone (b.atR a k) cs w) :=
 step_lone_go (by simp [stepG, stepG.exec, Frame.atR])
theorem wpIn_scope {F : Fence} {n : Nat} {c : Code} {Q : Exit → Act → World → Prop} {a : Act} {w : World} (h : c.wpIn F n P (Exit.noGoto Q) a w) : (Code.scope c).wpIn F n P Q a w := by
 intro b k cs hro hb hr
 have h0 : (lone (b.atR a (.code (.scope c) :: k)) cs w).fenced P F := fenced_calm hb hr rfl
 obtain ⟨e, a₁, w₁, hq, harr⟩ := h b (.inScope c :: k) cs hro hb hr
 cases e with
 | normal => exact ⟨.normal, a₁, w₁, hq, .head h0 stepR_scope (StepsIn.trans harr (.one (fenced_calm hb hr rfl) stepR_inScope))⟩
 | exit id' =>
  have hx : exitTo id' (.inScope c :: k) = exitTo id' k := by simp [exitTo]
  exact ⟨.exit id', a₁, w₁, hq, fun k' hk => .head h0 stepR_scope (harr.1 k' (by rw [hx]; exact hk)),
   fun hr' hk => let ⟨k₁, h1, h2⟩ := harr.2 hr' (by rw [hx]; exact hk); ⟨k₁, h1, .head h0 stepR_scope h2⟩⟩
 | goto l => exact hq.elim
 | ret => exact ⟨_, a₁, w₁, hq, .of_steps (.one h0 stepR_scope) harr⟩
 | panic ch => exact ⟨_, a₁, w₁, hq, .of_steps (.one h0 stepR_scope) harr⟩
 | outgrown => exact ⟨_, a₁, w₁, hq, .of_steps (.one h0 stepR_scope) harr⟩

theorem not_Li_replicate {N i : Nat} : ¬ Li (Array.replicate N false) i := by
 unfold Li
 rw [Array.getD_eq_getD_getElem?, Array.getElem?_replicate]
 split <;> simp

theorem draw_sound {ih : IhC} (hS : Sound P G ih) {ops : Array Oper} {n : Nat} {d : List DE} {t : PT AV} {σ : AHeap} {e : Ex} {t' : PT AV} {d' : List DE} {σ' : AHeap} (h : drawX P G ih ops n d t σ = .ok e t' d' σ')
  {ρ : Ren} {w : World} {a : Act} (hi : Inv ρ σ w) (hg : GR ρ G) (ht : TR ρ t n a.tmps) (hd : DR ρ d a.defers) (rl : Option Nat) (m : Nat) {Q : Exit → Act → World → Prop}
  (hQ : ∀ (ρ' : Ren) (w' : World) (a' : Act), Inv ρ' σ' w' → Stp ρ σ w ρ' σ' w' → TR ρ' t' n a'.tmps → DR ρ' d' a'.defers → Qx Q ρ' e a' w') :
  wpAnyIn (fenc rl) m P .any ops Q ops.size (Array.replicate ops.size false) a { w with drawn := w.drawn + 1 } := by
 unfold drawX at h
 rw [ite_cond] at h
 split at h
 ·rename_i hc
  obtain ⟨hs, hc2⟩ := fast_ok hc
  refine draw_any (A := ancA P ops) (n := n) (d := d) (t₀ := t) (ρ₀ := ρ) (σ₀ := σ) (w₀ := w) hs hS rl m rfl hQ ops.size (plan P ops) [] t σ _ ρ _ a ?_ ?_
  ·refine ⟨h, hc2, hi.drew, Stp.drew ρ σ w, hd, hg, ht.1, by simp, fun i hi => (by cases hi), trivial, fun i hL => absurd hL not_Li_replicate, fun i hi => (by cases hi), fun i j _ hL => absurd hL not_Li_replicate, fun i j _ hi => (by cases hi), fun i hi => (by cases hi),
    fun i k v hL => absurd hL not_Li_replicate, fun k v _ hv => ht.2 k v hv, fun _ _ => rfl, fun i hi => (by cases hi), ?_⟩
   intro i j o o' k k' u u' b hi
   cases hi
  ·exact Nat.le_trans List.countP_le_length (by simp)
 ·cases h

theorem enter_sound {ro : Option Pos} {rl : Option Nat} {d d₁ : List DE} {σ σ₁ : AHeap} {df : Pos} {ρ : Ren} {w : World} {a : Act} {t : PT AV} {n : Nat} (h : marksX ro d σ = some (df, σ₁, d₁)) (hi : Inv ρ σ w) (ht : TR ρ t n a.tmps) (hd : DR ρ d a.defers) (hr : RO ρ ro rl)
  (fn : FuncId) (ps : Array Tmp) (assign body : Code) :
  ∃ l mark w₁ ρ₁, (Instr.enterLoop fn a.tmps ps assign body rl).run P w = .ok (l, mark) w₁ ∧ Inv ρ₁ (σ₁.alloc (.loop .ready none t n ps.toList assign body df)) w₁ ∧ Stp ρ σ w ρ₁ (σ₁.alloc (.loop .ready none t n ps.toList assign body df)) w₁ ∧
   ρ₁ σ₁.next = some ⟨l, 0, 0⟩ ∧ DR ρ₁ d₁ (mark ++ a.defers) := by
 unfold marksX at h
 cases ro with
 | none =>
  cases rl with
  | some _ => exact hr.elim
  | none =>
  cases h
  obtain ⟨i1, s1⟩ := hi.alloc (o := .mark) (x := .deferred (some [])) (l := ⟨w.heap.size, 0, 0⟩) rfl rfl
  have hle1 := s1.le hi
  obtain ⟨i2, s2⟩ := i1.alloc (o := .loop .ready none t n ps.toList assign body σ.next) (x := .loop { state := .ready, pending := none, fn := fn, tmps := a.tmps, params := ps, assign := assign, body := body, defers := w.heap.size }) (l := ⟨w.heap.size + 1, 0, 0⟩) (by simp)
   ⟨fn, a.tmps, ⟨w.heap.size, 0, 0⟩, by simp, Ren.with_same _ _ _, ht.mono hle1⟩
  refine ⟨_, _, _, _, run_enterLoop_outer fn a.tmps ps assign body, i2, s1.trans s2, Ren.with_same _ _ _, ?_⟩
  exact ⟨⟨w.heap.size, 0, 0⟩, a.defers, s2.le i1 _ _ (Ren.with_same _ _ _), rfl, hd.mono (fun b l hb => s2.le i1 _ _ (hle1 b l hb))⟩
 | some b =>
  cases rl with
  | none => exact hr.elim
  | some l₀ =>
  obtain ⟨loc, hl, rfl⟩ := hr
  dsimp only at h
  cases hb : σ.m.get b with
  | none => rw [hb] at h; cases h
  | some ob =>
  rw [hb] at h
  cases ob with
  | loop st p tmps n' ps' as' bd df' =>
   cases h
   obtain ⟨x, hh, fn', tmps', l', rfl, hdf, htm⟩ := hi.obj b _ loc hb hl
   obtain ⟨i2, s2⟩ := hi.alloc (o := .loop .ready none t n ps.toList assign body df) (x := .loop { state := .ready, pending := none, fn := fn, tmps := a.tmps, params := ps, assign := assign, body := body, defers := l'.blk }) (l := ⟨w.heap.size, 0, 0⟩) rfl
    ⟨fn, a.tmps, l', by simp, hdf, ht⟩
   exact ⟨_, _, _, _, run_enterLoop_inner hh fn a.tmps ps assign body, i2, s2, Ren.with_same _ _ _, hd.mono (s2.le hi)⟩
  | _ => cases h

theorem then_other {K : Act → World → Prop} {Q : Exit → Act → World → Prop} {ρ : Ren} {e : Ex} {a : Act} {w : World} (he : e ≠ .normal) (h : Qx Q ρ e a w) : Qx (Exit.then K Q) ρ e a w := by
 intro E hE
 have h' := h E hE
 cases e with
 | normal => exact absurd rfl he
 | pan v => obtain ⟨x, rfl, _⟩ := hE; exact h'
 | exit i => have hE : E = .exit i := hE; subst hE; exact h'
 | goto i => have hE : E = .goto i := hE; subst hE; exact h'
 | ret => have hE : E = .ret := hE; subst hE; exact h'

theorem range_sound {ih : IhC} (hS : Sound P G ih) {g : Operand} {ps : Array Tmp} {assign body : Code} {t : PT AV} {n : Nat} {d : List DE} {ro : Option Pos} {σ : AHeap} {e : Ex} {t' : PT AV} {d' : List DE} {σ' : AHeap}
  (h : rangeX P G ih g ps assign body t n d ro σ = .ok e t' d' σ') {ρ : Ren} {w : World} {a : Act} {rl : Option Nat} {m : Nat} {Q : Exit → Act → World → Prop} (hi : Inv ρ σ w) (hg : GR ρ G) (ht : TR ρ t n a.tmps) (hd : DR ρ d a.defers) (hr : RO ρ ro rl)
  (hQ : ∀ (ρ' : Ren) (w' : World) (a' : Act), Inv ρ' σ' w' → Stp ρ σ w ρ' σ' w' → TR ρ' t' n a'.tmps → DR ρ' d' a'.defers → Qx Q ρ' e a' w') : (Code.rangeFunc g ps assign body).wpIn (fenc rl) m P Q a w := by
 unfold rangeX at h
 cases hm : marksX ro d σ with
 | none => rw [hm] at h; cases h
 | some q =>
 obtain ⟨df, σ₁, d₁⟩ := q
 rw [hm] at h
 dsimp only at h
 cases hv : evalT G t g with
 | none => rw [hv] at h; cases h
 | some fv =>
 rw [hv] at h
 cases fv with
 | func f fi ca =>
  dsimp only at h
  rw [ite_cond] at h
  split at h
  ·rename_i hgo
   refine wpIn_rangeFunc fun fn _ => ?_
   obtain ⟨l, mark, w₁, ρ₁, g1, g2, g3, g4, g5⟩ := enter_sound (P := P) hm hi ht hd hr fn ps assign body
   have hle := g3.le hi
   have hfv := eval_sound (a := a) hg ht hv
   simp only [VR] at hfv
   obtain ⟨fi', ca', hev, hfi, hca⟩ := hfv
   have hres : (resolve a.eval (rangeCall g l) 0).run P w₁ = .ok { target := .fn (.func f) ca', args := fi' ++ #[.func (.yield l) #[] #[]] } w₁ := by
    have hm1 : (#[Operand.const (.func (.yield l) #[] #[])]).map a.eval = #[.func (.yield l) #[] #[]] := by simp [Act.eval]
    simp only [resolve, rangeCall, hm1, hev, Deferred.ofValue, Sem.run_pure]
   have hinv : (invoke (.fn (.func f) ca') (fi' ++ #[.func (.yield l) #[] #[]])).run P w₁ = .ok (.enter f (fi' ++ #[.func (.yield l) #[] #[]] ++ ca')) w₁ := by
    simp only [invoke]
    exact isGo_sound hgo
   refine ⟨l, mark, w₁, _, w₁, f, _, w₁, by rw [fenc_round]; exact g1, hres, fun f' _ => fenc_fn rl f', hinv, fenc_deep rl m, ?_⟩
   cases hc : callX P G ih f (appN fi (.yield σ₁.next :: ca)) (σ₁.alloc (.loop .ready none t n ps.toList assign body df)) with
   | err k => rw [hc] at h; cases h
   | pan v σ₃ => rw [hc] at h; cases h
   | ret v σ₃ =>
   rw [hc] at h
   dsimp only at h
   refine call_sound hS hc g2 (hg.mono hle) ?_ rl _ fun ρ₃ w₃ x i₃ s₃ hx => ?_
   ·rw [appN_eq]
    have : (fi' ++ #[Value.func (.yield l) #[] #[]] ++ ca').toList = fi'.toList ++ (.func (.yield l) #[] #[] :: ca'.toList) := by simp
    rw [this]
    refine VRs.append (VRs.mono hle _ _ hfi) (VRs.cons ?_ (VRs.mono hle _ _ hca))
    simp only [VR]
    exact ⟨_, g4, rfl⟩
   ·have hl₃ := s₃.le g2 _ _ g4
    have hle₃ : ρ.le ρ₃ := fun b l hb => s₃.le g2 _ _ (hle b l hb)
    unfold afterX at h
    cases hb : σ₃.m.get σ₁.next with
    | none => rw [hb] at h; cases h
    | some ob =>
    rw [hb] at h
    cases ob with
    | loop st p tmps n' ps' as bd df' =>
     dsimp only at h
     obtain ⟨y, hh, fn', tmps', l', rfl, hdf, htm⟩ := i₃.obj _ _ _ hb hl₃
     have hnb : st ≠ .busy := fun hst => by subst hst; cases h
     have h' : (match p with
       | none => CR.ok .normal t d₁ (σ₃.setObj σ₁.next (.loop .exhausted none tmps n' ps' as bd df'))
       | some c => ih c t n d₁ ro (σ₃.setObj σ₁.next (.loop .exhausted (some c) tmps n' ps' as bd df'))) = .ok e t' d' σ' := by
      cases st <;> first | exact absurd rfl hnb | exact h
     obtain ⟨i₄, s₄⟩ := i₃.putObj (o' := .loop .exhausted p tmps n' ps' as bd df') hb hl₃ rfl rfl
      (x := .loop { state := .exhausted, pending := p, fn := fn', tmps := tmps', params := ps'.toArray, assign := as, body := bd, defers := l'.blk }) ⟨fn', tmps', l', rfl, hdf, htm⟩
     refine ⟨p, _, run_endLoop hh hnb, ?_⟩
     have hst := (g3.trans s₃).trans s₄
     have hle₁₃ : ρ₁.le ρ₃ := s₃.le g2
     cases p with
     | none =>
      cases h'
      exact hQ ρ₃ _ { a with defers := mark ++ a.defers } i₄ hst (ht.mono hle₃) (g5.mono hle₁₃) _ rfl
     | some c =>
      exact hS.run c t n d₁ ro _ e t' d' σ' h' ρ₃ _ { a with defers := mark ++ a.defers } rl m Q i₄ (hg.mono hle₃) (ht.mono hle₃) (g5.mono hle₁₃) (hr.mono hle₃) fun ρ' w' a' i' s' t'' d'' => hQ ρ' w' a' i' (hst.trans s') t'' d''
    | _ => cases h
  ·cases h
 | _ => cases h

theorem run_sound (hm : P.follows .mixedOrders = true) (hC : CxOK P G) (k : Nat) : Sound P G (runX P G k) := by
 induction k using Nat.strongRecOn with
 | _ k ihk =>
  cases k with
  | zero => exact ⟨hC, fun c t n d ro σ e t' d' σ' h => by cases h⟩
  | succ j =>
   have hS := ihk j (Nat.lt_succ_self j)
   refine ⟨hC, fun c t n d ro σ e t' d' σ' h ρ w a rl m Q hi hg ht hd hr hQ => ?_⟩
   have h : stepX P G (runX P G j) c t n d ro σ = .ok e t' d' σ' := h
   cases c with
   | skip => cases h; exact wpIn_skip (hQ ρ w a hi (Stp.refl _ _ _) ht hd _ rfl)
   | label l => cases h; exact wpIn_label (hQ ρ w a hi (Stp.refl _ _ _) ht hd _ rfl)
   | exit id => cases h; exact wpIn_exit (hQ ρ w a hi (Stp.refl _ _ _) ht hd _ rfl)
   | ret => cases h; exact wpIn_ret (hQ ρ w a hi (Stp.refl _ _ _) ht hd _ rfl)
   | region id ops draw =>
    cases draw with
    | false =>
     have h' : (bif hasDef ops.toList then defX P G ops n ro d t σ else fixD d (opsX P G (runX P G j) ops n d ops.toList t σ)) = .ok e t' d' σ' := h
     refine wpIn_region ?_
     rw [ite_cond] at h'
     split at h'
     ·unfold defX at h'
      cases ro with
      | some _ => cases h'
      | none =>
       cases rl with
       | some _ => exact hr.elim
       | none =>
        have := opsD_sound hS.cx.ov (m := m) (Q := Q) ops.toList 0 rfl d t σ ρ w a h' hi hg ht hd hQ
        rw [List.range_eq_range']
        simpa using this
     have := ops_sound hS rl (m := m) (Q := Q) ops.toList 0 rfl t σ ρ w a h' hi hg ht hd hQ
     rw [List.range_eq_range']
     simpa using this
    | true =>
     have h' : drawX P G (runX P G j) ops n d t σ = .ok e t' d' σ' := h
     exact wpIn_region_any hm (draw_sound hS h' hi hg ht hd rl m hQ)
   | seq x y =>
    have h' : seqX (runX P G j x t n d ro σ) (fun t d σ => runX P G j y t n d ro σ) = .ok e t' d' σ' := h
    refine wpIn_seq ?_
    cases hx : runX P G j x t n d ro σ with
    | err q => rw [hx] at h'; cases h'
    | ok e₁ t₁ d₁ σ₁ =>
     rw [hx] at h'
     by_cases he : e₁ = .normal
     ·subst he
      refine hS.run x t n d ro σ _ t₁ d₁ σ₁ hx ρ w a rl m _ hi hg ht hd hr fun ρ₁ w₁ a₁ i₁ s₁ ht₁ hd₁ E hE => ?_
      have hE : E = .normal := hE
      subst hE
      have hle := s₁.le hi
      exact hS.run y t₁ n d₁ ro σ₁ e t' d' σ' h' ρ₁ w₁ a₁ rl m Q i₁ (hg.mono hle) ht₁ hd₁ (hr.mono hle) fun ρ' w' a' i' s' => hQ ρ' w' a' i' (s₁.trans s')
     ·have h'' : CR.ok e₁ t₁ d₁ σ₁ = .ok e t' d' σ' := by cases e₁ <;> first | exact absurd rfl he | exact h'
      cases h''
      exact hS.run x t n d ro σ _ _ _ _ hx ρ w a rl m _ hi hg ht hd hr fun ρ₁ w₁ a₁ i₁ s₁ ht₁ hd₁ => then_other he (hQ ρ₁ w₁ a₁ i₁ s₁ ht₁ hd₁)
   | cond x y z =>
    have h' : condX (evalT G t x) (runX P G j y t n d ro σ) (runX P G j z t n d ro σ) = .ok e t' d' σ' := h
    unfold condX at h'
    split at h'
    ·rename_i hv
     have := eval_sound (a := a) hg ht hv
     simp only [VR] at this
     exact wpIn_cond_true this (hS.run y t n d ro σ e t' d' σ' h' ρ w a rl m Q hi hg ht hd hr hQ)
    ·rename_i hv
     have := eval_sound (a := a) hg ht hv
     simp only [VR] at this
     exact wpIn_cond_false this (hS.run z t n d ro σ e t' d' σ' h' ρ w a rl m Q hi hg ht hd hr hQ)
    ·cases h'
   | block id x =>
    have h' : blockX id (runX P G j x t n d ro σ) = .ok e t' d' σ' := h
    refine wpIn_block ?_
    cases hx : runX P G j x t n d ro σ with
    | err q => rw [hx] at h'; cases h'
    | ok e₁ t₁ d₁ σ₁ =>
     rw [hx] at h'
     refine hS.run x t n d ro σ e₁ t₁ d₁ σ₁ hx ρ w a rl m _ hi hg ht hd hr fun ρ₁ w₁ a₁ i₁ s₁ ht₁ hd₁ E hE => ?_
     cases e₁ with
     | exit q =>
      have hE : E = .exit q := hE
      subst hE
      unfold blockX at h'
      dsimp only at h'
      rw [ite_cond] at h'
      split at h'
      ·rename_i hq
       cases h'
       have := Nat.eq_of_beq_eq_true hq
       subst this
       simp only [Exit.inBlock, if_true]
       exact hQ ρ₁ w₁ a₁ i₁ s₁ ht₁ hd₁ _ rfl
      ·rename_i hq
       cases h'
       have hne : ¬ q = id := fun e => hq (by rw [e]; exact Nat.beq_refl id)
       simp only [Exit.inBlock, if_neg hne]
       exact hQ ρ₁ w₁ a₁ i₁ s₁ ht₁ hd₁ _ rfl
     | normal => have hE : E = .normal := hE; subst hE; cases h'; exact hQ ρ₁ w₁ a₁ i₁ s₁ ht₁ hd₁ _ rfl
     | goto q => have hE : E = .goto q := hE; subst hE; cases h'; exact hQ ρ₁ w₁ a₁ i₁ s₁ ht₁ hd₁ _ rfl
     | ret => have hE : E = .ret := hE; subst hE; cases h'; exact hQ ρ₁ w₁ a₁ i₁ s₁ ht₁ hd₁ _ rfl
     | pan v => cases h'; have h2 := hQ ρ₁ w₁ a₁ i₁ s₁ ht₁ hd₁ E hE; obtain ⟨y, rfl, _⟩ := hE; exact h2
   | scope x =>
    have h' : scopeX (runX P G j x t n d ro σ) = .ok e t' d' σ' := h
    refine wpIn_scope ?_
    cases hx : runX P G j x t n d ro σ with
    | err q => rw [hx] at h'; cases h'
    | ok e₁ t₁ d₁ σ₁ =>
     rw [hx] at h'
     refine hS.run x t n d ro σ e₁ t₁ d₁ σ₁ hx ρ w a rl m _ hi hg ht hd hr fun ρ₁ w₁ a₁ i₁ s₁ ht₁ hd₁ E hE => ?_
     cases e₁ with
     | goto q => cases h'
     | normal => have hE : E = .normal := hE; subst hE; cases h'; exact hQ ρ₁ w₁ a₁ i₁ s₁ ht₁ hd₁ _ rfl
     | exit q => have hE : E = .exit q := hE; subst hE; cases h'; exact hQ ρ₁ w₁ a₁ i₁ s₁ ht₁ hd₁ _ rfl
     | ret => have hE : E = .ret := hE; subst hE; cases h'; exact hQ ρ₁ w₁ a₁ i₁ s₁ ht₁ hd₁ _ rfl
     | pan v => cases h'; have h2 := hQ ρ₁ w₁ a₁ i₁ s₁ ht₁ hd₁ E hE; obtain ⟨y, rfl, _⟩ := hE; exact h2
   | loop x =>
    refine wpIn_loop_ghost (fun i a₁ w₁ => i ≤ j + 1 ∧ ∃ t₁ d₁ σ₁ ρ₁, runX P G i (.loop x) t₁ n d₁ ro σ₁ = .ok e t' d' σ' ∧ Inv ρ₁ σ₁ w₁ ∧ Stp ρ σ w ρ₁ σ₁ w₁ ∧ TR ρ₁ t₁ n a₁.tmps ∧ DR ρ₁ d₁ a₁.defers) (j + 1)
     ⟨Nat.le_refl _, t, d, σ, ρ, h, hi, Stp.refl _ _ _, ht, hd⟩ fun i a₁ w₁ hI => ?_
    obtain ⟨hij, t₁, d₁, σ₁, ρ₁, hrun, i₁, s₁, ht₁, hd₁⟩ := hI
    have hle := s₁.le hi
    cases i with
    | zero => cases hrun
    | succ i =>
     have hSi := ihk i (by omega)
     have h' : seqX (runX P G i x t₁ n d₁ ro σ₁) (fun t d σ => runX P G i (.loop x) t n d ro σ) = .ok e t' d' σ' := hrun
     cases hx : runX P G i x t₁ n d₁ ro σ₁ with
     | err q => rw [hx] at h'; cases h'
     | ok e₂ t₂ d₂ σ₂ =>
      rw [hx] at h'
      by_cases he : e₂ = .normal
      ·subst he
       refine hSi.run x t₁ n d₁ ro σ₁ _ t₂ d₂ σ₂ hx ρ₁ w₁ a₁ rl m _ i₁ (hg.mono hle) ht₁ hd₁ (hr.mono hle) fun ρ₂ w₂ a₂ i₂ s₂ ht₂ hd₂ E hE => ?_
       have hE : E = .normal := hE
       subst hE
       exact ⟨i, Nat.lt_succ_self i, by omega, t₂, d₂, σ₂, ρ₂, h', i₂, s₁.trans s₂, ht₂, hd₂⟩
      ·have h'' : CR.ok e₂ t₂ d₂ σ₂ = .ok e t' d' σ' := by cases e₂ <;> first | exact absurd rfl he | exact h'
       cases h''
       exact hSi.run x t₁ n d₁ ro σ₁ _ _ _ _ hx ρ₁ w₁ a₁ rl m _ i₁ (hg.mono hle) ht₁ hd₁ (hr.mono hle) fun ρ₂ w₂ a₂ i₂ s₂ ht₂ hd₂ => then_other he (hQ ρ₂ w₂ a₂ i₂ (s₁.trans s₂) ht₂ hd₂)
   | rangeFunc g ps assign body => exact range_sound hS h hi hg ht hd hr hQ
   | _ => cases h

/-- **A CALL's ANSWER.** -/
theorem evalCall_sound (hm : P.follows .mixedOrders = true) (hC : CxOK P G) {fuel f : Nat} {args : List AV} {σ σ' : AHeap} {v : AV} (h : evalCall P G fuel f args σ = .ret v σ') {ρ : Ren} {w : World} {xs : Array Value} (hi : Inv ρ σ w) (hg : GR ρ G) (hx : VRs ρ args xs.toList)
  {R : Ending → World → Prop} (hR : ∀ (ρ' : Ren) (w' : World) (x : Value), Inv ρ' σ' w' → Stp ρ σ w ρ' σ' w' → VR ρ' v x → R (.returned x) w') : Calls P f xs w R :=
 callsIn_wide.1 (call_sound (run_sound hm hC fuel) h hi hg hx none 0 hR)

/-- From no blocks at all. -/
def σ0 : AHeap := ⟨0, .leaf⟩
theorem inv0 (w : World) (ho : OldW w) : Inv (fun _ => none) σ0 w :=
 ⟨⟨fun b _ => ⟨rfl, PT.get_leaf b⟩, fun b l h => (by cases h), fun b o l _ h => (by cases h), fun b b' o o' l l' _ _ h => (by cases h)⟩, ho.1, ho.2, fun r _ ⟨b, o, l, _, _, h, _⟩ => by cases h⟩
end
end Go.Ev

/- What a call leaves as it lay; the row's answer. -/
namespace Go.Ev
variable [Env]
open Go.ChangeShapes Go.WideShapes Go.ChangeAt Go.RowKit

theorem Keeps.of_stp {w w' : World} {ρ ρ' : Ren} {σ' : AHeap} (h : Stp ρ σ0 w ρ' σ' w') : Keeps w w' :=
 ⟨h.os, h.out, h.tape, h.size, fun r hr => h.frame r hr fun ⟨b, o, l, h1, _⟩ => by
  have : (PT.leaf : PT AObj).get b = some o := h1
  rw [PT.get_leaf] at this; cases this⟩

theorem Keeps.kept {w w' : World} (h : Keeps w w') (may : MemPlace → Prop) : w.keptBut w' may := by
 refine ⟨h.os, h.out, fun i hi => ?_⟩
 rw [h.same i hi]
 cases w.heap[i]? with
 | none => rfl
 | some o => cases o <;> first | exact ⟨rfl, rfl, rfl, fun _ _ => rfl⟩ | exact .inr ⟨rfl, rfl⟩ | rfl
theorem Keeps.frozen {w w' : World} (h : Keeps w w') (a : Addr) (ha : a.block < w.heap.size) : w'.frozen? a = w.frozen? a := by
 unfold World.frozen?
 rw [h.same a.block ha]

theorem post_keeps {H : Type} {enc : TypeId × Value → H} {P : Program} {f : Func} {s : ChangeSpec} {apart fresh handsOn again : Bool} {W W' : World} {args : Array Value} {v : Value} {ds gs : List (DataW H)} {before pa pv : List MemPlace}
  (hW : DataW.Whole enc P f.params.toList s.vars apart W args.toList ds gs before)
  (hres : ∀ (b : Nat) (sp : Nat → Bool) (hd : Bool), DataW.TrodAll enc P W' b sp hd f.resultTypes.toList (v.resultList f.resultTypes.size) (s.fn H (ds ++ gs)).results [])
  (hargs : ∀ sp : Nat → Bool, (∀ p ∈ before, sp p.block = true) → DataW.TrodAll enc P W' 0 sp true f.params.toList args.toList (s.fn H (ds ++ gs)).args pa)
  (hvars : ∀ sp : Nat → Bool, (∀ p ∈ before, sp p.block = true) → DataW.TrodVars enc P W' sp s.vars (s.fn H (ds ++ gs)).vars pv)
  (hps : before = pa ++ pv) (hk : Keeps W W')
  (hok : ∀ (j : Nat) (t : TypeId) (r : Value), f.resultTypes[j]? = some t → (v.resultList f.resultTypes.size)[j]? = some r → Value.okWide P W' .any 0 t r) :
  s.post enc P f apart fresh handsOn again W args v W' := by
 have hold : ∀ p ∈ before, (fun b => decide (b < W.heap.size)) p.block = true := fun p hp => by simpa using hW.lt p hp
 refine ⟨ds, gs, before, [], pa, pv, hW, hres _ _ _, hargs _ hold, hvars _ hold, hk.kept _, fun _ => ?_⟩
 have hlt := hW.lt
 obtain ⟨_, _, _, _, _, hz, hn⟩ := hW
 refine ⟨hok, _, _, ([] ++ pa) ++ pv, ⟨[] ++ pa, pv, trodAll_append (hargs _ (fun _ _ => rfl)) (hres _ _ _), hvars _ (fun _ _ => rfl), rfl, ?_, ?_⟩, ?_⟩
 ·intro b off hp
  have hp' : MemPlace.cell b off ∈ before := by rw [hps]; simpa using hp
  rw [hk.frozen _ (hlt _ hp')]
  exact hz b off hp'
 ·intro ha
  have := hn ha
  rw [hps] at this
  simpa using this
 ·intro p hp _
  rw [hps]
  simpa using hp
end Go.Ev

/- The evaluator, made ready for the kernel: what hangs on the program alone is a closed term, whose value is kept once it is known. -/
namespace Go.Ev
variable [Env]

/-! Looks at values. -/
structure IK where
 k : IntKind
 n : Int
structure PO where
 b : Pos
 off : Nat
structure SL where
 b : Pos
 off : Nat
 len : Nat
def asI : AV → Option IK
 | .int k n => some ⟨k, n⟩
 | _ => none
def asP : AV → Option PO
 | .ptr b off => some ⟨b, off⟩
 | _ => none
def asS : AV → Option SL
 | .slice b off len _ => some ⟨b, off, len⟩
 | _ => none
def asN : AV → Option Nat
 | .int _ (.ofNat i) => some i
 | _ => none
def asB : AV → Option Bool
 | .bool b => some b
 | _ => none
def asT : AV → Option (List AV)
 | .tuple l => some l
 | _ => none
def rowOf : AObj → Option (List AV)
 | .row cells _ _ => some cells
 | .own cells _ => some cells
 | _ => none
theorem asI_some {v : AV} {i : IK} (h : asI v = some i) : v = .int i.k i.n := by
 unfold asI at h; split at h
 ·cases h; rfl
 ·cases h
theorem asP_some {v : AV} {i : PO} (h : asP v = some i) : v = .ptr i.b i.off := by
 unfold asP at h; split at h
 ·cases h; rfl
 ·cases h
theorem asS_some {v : AV} {i : SL} (h : asS v = some i) : ∃ c, v = .slice i.b i.off i.len c := by
 unfold asS at h; split at h
 ·cases h; exact ⟨_, rfl⟩
 ·cases h
theorem asN_some {v : AV} {i : Nat} (h : asN v = some i) : ∃ k, v = .int k (.ofNat i) := by
 unfold asN at h; split at h
 ·cases h; exact ⟨_, rfl⟩
 ·cases h

noncomputable def valF (σ : AHeap) (e : Nat) (v : Option AV) : HR := Option.rec (motive := fun _ => HR) (.err e) (fun v => .val v σ) v
theorem valF_eq (σ : AHeap) (e : Nat) (v : Option AV) : valF σ e v = match v with | some v => .val v σ | none => .err e := by cases v <;> rfl

/-! Operands. -/
structure OdC where
 run : PT AV → Option AV
noncomputable def odC (G : Cx) (x : Operand) : OdC :=
 match x with
 | .tmp k => bif Nat.ble k 255 then ⟨fun t => get2 t.s k⟩ else ⟨fun t => t.get k⟩
 | .const v => ⟨fun _ => ofVal v⟩
 | .global g => ⟨fun _ => bif Nat.ble (Nat.succ g) G.gl then some (.ptr (posOf g) 0) else none⟩
 | .func f => ⟨fun _ => some (.func f [] [])⟩
theorem odC_eq (G : Cx) (x : Operand) (t : PT AV) : (odC G x).run t = evalT G t x := by
 cases x with
 | tmp k =>
  show (bif Nat.ble k 255 then (⟨fun t => get2 t.s k⟩ : OdC) else ⟨fun t => t.get k⟩).run t = t.get k
  cases h : Nat.ble k 255 with
  | true => exact (PT.get_s t ((ble_iff k 255).1 h)).symm
  | false => rfl
 | _ => rfl

/-! Two integers. -/
structure BiC where
 run : AV → AV → Option AV
noncomputable def iiF (P : Program) (q : Bool) (o : BinOp) (ty : TypeId) (f : IntKind → Int → Int → AV) (a b : AV) : Option AV :=
 Option.rec (motive := fun _ => Option AV) (binN P q o ty a b) (fun i => Option.rec (motive := fun _ => Option AV) (binN P q o ty a b) (fun j => bif eqK i.k j.k then some (f i.k i.n j.n) else none) (asI b)) (asI a)
theorem iiF_eq {P : Program} {q : Bool} {o : BinOp} {ty : TypeId} {f : IntKind → Int → Int → AV} (h : ∀ k x k' y, binN P q o ty (.int k x) (.int k' y) = bif eqK k k' then some (f k x y) else none) (a b : AV) : iiF P q o ty f a b = binN P q o ty a b := by
 unfold iiF
 cases ha : asI a with
 | none => rfl
 | some i =>
  cases hb : asI b with
  | none => rfl
  | some j =>
   rw [asI_some ha, asI_some hb, h]
def ltF (_ : IntKind) (x y : Int) : AV := .bool (ltI x y)
def gtF (_ : IntKind) (x y : Int) : AV := .bool (ltI y x)
def leF (_ : IntKind) (x y : Int) : AV := .bool (bif ltI y x then false else true)
def geF (_ : IntKind) (x y : Int) : AV := .bool (bif ltI x y then false else true)
def eqF (_ : IntKind) (x y : Int) : AV := .bool (eqI x y)
def neF (_ : IntKind) (x y : Int) : AV := .bool (bif eqI x y then false else true)
def addF (k : IntKind) (x y : Int) : AV := .int k (wr k (Int.add x y))
def subF (k : IntKind) (x y : Int) : AV := .int k (wr k (Int.sub x y))
def mulF (k : IntKind) (x y : Int) : AV := .int k (wr k (Int.mul x y))
noncomputable def biC (P : Program) (q : Bool) (o : BinOp) (ty : TypeId) : BiC :=
 match o with
 | .lss => ⟨iiF P q .lss ty ltF⟩
 | .gtr => ⟨iiF P q .gtr ty gtF⟩
 | .leq => ⟨iiF P q .leq ty leF⟩
 | .geq => ⟨iiF P q .geq ty geF⟩
 | .eql => ⟨iiF P q .eql ty eqF⟩
 | .neq => ⟨iiF P q .neq ty neF⟩
 | .add => ⟨iiF P q .add ty addF⟩
 | .sub => ⟨iiF P q .sub ty subF⟩
 | .mul => ⟨iiF P q .mul ty mulF⟩
 | o => ⟨fun a b => binN P q o ty a b⟩
theorem biC_eq (P : Program) (q : Bool) (o : BinOp) (ty : TypeId) (a b : AV) : (biC P q o ty).run a b = binN P q o ty a b := by
 cases o <;> first | rfl | exact iiF_eq (fun _ _ _ _ => rfl) a b
noncomputable def b2F (c : BiC) (x y : Option AV) : Option AV :=
 Option.rec (motive := fun _ => Option AV) none (fun a => Option.rec (motive := fun _ => Option AV) none (fun b => c.run a b) y) x

noncomputable def pickF (c a b : Option AV) : Option AV :=
 Option.rec (motive := fun _ => Option AV) none (fun c => Option.rec (motive := fun _ => Option AV) none (fun c => bif c then a else b) (asB c)) c
noncomputable def exF (i : Nat) (x : Option AV) : Option AV :=
 Option.rec (motive := fun _ => Option AV) none (fun x => Option.rec (motive := fun _ => Option AV) none (fun l => nth l i) (asT x)) x

/-! Memory. -/
noncomputable def ldF (ag : Option (Option Nat)) (cells : List AV) (off : Nat) : Option AV :=
 Option.rec (motive := fun _ => Option AV) none (fun o => Option.rec (motive := fun _ => Option AV) (nth cells off) (fun n => bif Nat.ble (Nat.add off n) (lenN cells) then some (.agg (takeN (dropN cells off) n)) else none) o) ag
noncomputable def loadF (ag : Option (Option Nat)) (σ : AHeap) (x : Option AV) : Option AV :=
 Option.rec (motive := fun _ => Option AV) none (fun v => Option.rec (motive := fun _ => Option AV) none (fun p => Option.rec (motive := fun _ => Option AV) none
  (fun o => Option.rec (motive := fun _ => Option AV) none (fun cells => ldF ag cells p.off) (rowOf o)) (σ.m.get p.b)) (asP v)) x
noncomputable def faOff (P : Program) (s : TypeId) (i : Nat) : Option Nat :=
 match structOf P s with
 | some fs => match fs[i]? with
  | some f => match infoF P f.type with
   | some j => bif Nat.beq j.size 0 then none else some f.offset
   | none => none
  | none => none
 | none => none
noncomputable def faF (k : Option Nat) (x : Option AV) : Option AV :=
 Option.rec (motive := fun _ => Option AV) none (fun k => Option.rec (motive := fun _ => Option AV) none (fun v => Option.rec (motive := fun _ => Option AV) none (fun p => some (.ptr p.b (Nat.add p.off k))) (asP v)) x) k

/-- An index expression's elements: of an array so many, each of so many cells. -/
structure IA where
 n : Option Nat
 sz : Nat
noncomputable def iaInfo (P : Program) (t : TypeId) : Option IA :=
 match underF P t with
 | some (.slice e) => match infoF P e with | some j => some ⟨none, j.size⟩ | none => none
 | some (.array n e) => match infoF P e with | some j => some ⟨some n, j.size⟩ | none => none
 | _ => none
noncomputable def iaGo (q : IA) (v : AV) (i : Nat) : Option AV :=
 Option.rec (motive := fun _ => Option AV)
  (Option.rec (motive := fun _ => Option AV) none (fun s => bif Nat.ble (Nat.succ i) s.len then some (.ptr s.b (Nat.add s.off (Nat.mul i q.sz))) else none) (asS v))
  (fun n => Option.rec (motive := fun _ => Option AV) none (fun p => bif Nat.ble (Nat.succ i) n then some (.ptr p.b (Nat.add p.off (Nat.mul i q.sz))) else none) (asP v)) q.n
noncomputable def iaF (q : Option IA) (x i : Option AV) : Option AV :=
 Option.rec (motive := fun _ => Option AV) none (fun q => Option.rec (motive := fun _ => Option AV) none (fun v => Option.rec (motive := fun _ => Option AV) none
  (fun w => Option.rec (motive := fun _ => Option AV) none (fun i => iaGo q v i) (asN w)) i) x) q

structure OpC where
 run : PT AV → AHeap → HR
noncomputable def callV (P : Program) (G : Cx) (σ : AHeap) (f : Option AV) (args : Option (List AV)) : HR :=
 Option.rec (motive := fun _ => HR) (.err 12) (fun g => Option.rec (motive := fun _ => HR) (.err 12) (fun args => callA P G.ov σ g args) args) f
noncomputable def evsC (G : Cx) (l : List Operand) (t : PT AV) : Option (List AV) := allSome (fun x => (odC G x).run t) l

noncomputable def opC (P : Program) (G : Cx) (op : Op) : OpC :=
 match op with
 | .move x => ⟨fun t σ => valF σ 1001 ((odC G x).run t)⟩
 | .assign x => ⟨fun t σ => valF σ 1002 ((odC G x).run t)⟩
 | .pick c a b => ⟨fun t σ => valF σ 1003 (pickF ((odC G c).run t) ((odC G a).run t) ((odC G b).run t))⟩
 | .binOp o ty x y _ => ⟨fun t σ => valF σ 1014 (b2F (biC P (isK x || isK y) o ty) ((odC G x).run t) ((odC G y).run t))⟩
 | .extract x i => ⟨fun t σ => valF σ 1036 (exF i ((odC G x).run t))⟩
 | .load ty x => ⟨fun t σ => valF σ 2009 (loadF (aggOf P ty) σ ((odC G x).run t))⟩
 | .fieldAddr s x i => ⟨fun t σ => valF σ 1024 (faF (faOff P s i) ((odC G x).run t))⟩
 | .indexAddr ty x i => ⟨fun t σ => valF σ 1026 (iaF (iaInfo P ty) ((odC G x).run t) ((odC G i).run t))⟩
 | .call c => match c.callee with
  | .value f => ⟨fun t σ => callV P G σ ((odC G f).run t) (evsC G c.args.toList t)⟩
  | _ => ⟨fun t σ => opX P G (evalT G t) σ (.call c)⟩
 | op => ⟨fun t σ => opX P G (evalT G t) σ op⟩

theorem opC_eq (P : Program) (G : Cx) (op : Op) (t : PT AV) (σ : AHeap) : (opC P G op).run t σ = opX P G (evalT G t) σ op := by
 cases op with
 | move x => show valF σ 1001 ((odC G x).run t) = _; rw [odC_eq, valF_eq]; rfl
 | assign x => show valF σ 1002 ((odC G x).run t) = _; rw [odC_eq, valF_eq]; rfl
 | pick c a b =>
  show valF σ 1003 (pickF ((odC G c).run t) ((odC G a).run t) ((odC G b).run t)) = _
  rw [odC_eq, odC_eq, odC_eq, valF_eq]
  have : pickF (evalT G t c) (evalT G t a) (evalT G t b) = pureA P (evalT G t) (.pick c a b) := by
   simp only [pureA, pickF]
   cases evalT G t c with
   | none => rfl
   | some v => cases v <;> first | rfl | (rename_i b; cases b <;> rfl)
  rw [this]; rfl
 | binOp o ty x y r =>
  show valF σ 1014 (b2F (biC P (isK x || isK y) o ty) ((odC G x).run t) ((odC G y).run t)) = _
  rw [odC_eq, odC_eq, valF_eq]
  have : b2F (biC P (isK x || isK y) o ty) (evalT G t x) (evalT G t y) = pureA P (evalT G t) (.binOp o ty x y r) := by
   simp only [pureA, b2F]
   cases evalT G t x with
   | none => rfl
   | some v =>
    cases evalT G t y with
    | none => rfl
    | some u => exact biC_eq P _ o ty v u
  rw [this]; rfl
 | extract x i =>
  show valF σ 1036 (exF i ((odC G x).run t)) = _
  rw [odC_eq, valF_eq]
  have : exF i (evalT G t x) = pureA P (evalT G t) (.extract x i) := by
   simp only [pureA, exF]
   cases evalT G t x with
   | none => rfl
   | some v => cases v <;> rfl
  rw [this]; rfl
 | load ty x =>
  show valF σ 2009 (loadF (aggOf P ty) σ ((odC G x).run t)) = _
  rw [odC_eq, valF_eq]
  have : loadF (aggOf P ty) σ (evalT G t x) = readA P (evalT G t) σ (.load ty x) := by
   simp only [readA, loadF]
   cases evalT G t x with
   | none => rfl
   | some v =>
    cases v <;> first | rfl | skip
    rename_i b off
    show Option.rec (motive := fun _ => Option AV) none _ (σ.m.get b) = _
    cases hb : σ.m.get b with
    | none => dsimp only; rw [hb]
    | some o =>
     dsimp only
     rw [hb]
     cases o <;> first | rfl | skip
     all_goals
      show ldF (aggOf P ty) _ off = _
      unfold ldF
      cases aggOf P ty with
      | none => rfl
      | some q => cases q <;> rfl
  rw [this]; rfl
 | fieldAddr s x i =>
  show valF σ 1024 (faF (faOff P s i) ((odC G x).run t)) = _
  rw [odC_eq, valF_eq]
  have : faF (faOff P s i) (evalT G t x) = pureA P (evalT G t) (.fieldAddr s x i) := by
   simp only [pureA, faOff, infoF_eq]
   cases structOf P s with
   | none => rfl
   | some fs =>
    dsimp only
    cases hx : evalT G t x with
    | none =>
     cases fs[i]? with
     | none => rfl
     | some f => dsimp only; cases P.info? f.type with
      | none => rfl
      | some j => dsimp only; cases Nat.beq j.size 0 <;> rfl
    | some v =>
     cases hf : fs[i]? with
     | none => cases v <;> first | rfl | (simp only [hf]; rfl)
     | some f =>
      dsimp only
      cases hj : P.info? f.type with
      | none => cases v <;> first | rfl | (simp only [hf, hj]; rfl)
      | some j =>
       dsimp only
       cases hz : Nat.beq j.size 0 <;> (cases v <;> first | rfl | (simp only [hf, hj, hz]; rfl))
  rw [this]; rfl
 | indexAddr ty x i =>
  show valF σ 1026 (iaF (iaInfo P ty) ((odC G x).run t) ((odC G i).run t)) = _
  rw [odC_eq, odC_eq, valF_eq]
  have : iaF (iaInfo P ty) (evalT G t x) (evalT G t i) = pureA P (evalT G t) (.indexAddr ty x i) := by
   simp only [pureA, iaInfo, infoF_eq, underF_eq]
   cases hu : P.underlying ty with
   | none => rfl
   | some d =>
    cases d <;> first | rfl | skip
    all_goals
     dsimp only
     rename_i e
     cases hj : P.info? e with
     | none =>
      cases evalT G t x with
      | none => rfl
      | some v => cases v <;> first | rfl | (cases evalT G t i with
       | none => rfl
       | some u => cases u <;> first | rfl | (rename_i k n; cases n <;> first | rfl | (simp only [hj]; rfl)))
     | some j =>
      cases evalT G t x with
      | none => rfl
      | some v => cases v <;> first | (cases evalT G t i with
       | none => rfl
       | some u => cases u <;> first | rfl | (rename_i k n; cases n <;> first | rfl | (simp only [hj]; rfl)))
  rw [this]; rfl
 | call c =>
  cases hc : c.callee with
  | value f =>
   have h1 : (opC P G (.call c)).run t σ = callV P G σ ((odC G f).run t) (evsC G c.args.toList t) := by
    show (match c.callee with
     | .value f => (⟨fun t σ => callV P G σ ((odC G f).run t) (evsC G c.args.toList t)⟩ : OpC)
     | _ => ⟨fun t σ => opX P G (evalT G t) σ (.call c)⟩).run t σ = _
    rw [hc]
   have h2 : opX P G (evalT G t) σ (.call c) = heavyA P G.ov (evalT G t) σ (.call c) := by
    unfold opX
    have : kindOf P (.call c) = .heavy := by simp only [kindOf, hc]
    rw [this]
   have h3 : evsC G c.args.toList t = evs (evalT G t) c.args.toList := by
    unfold evsC evs
    congr 1
    funext x
    exact odC_eq G x t
   rw [h1, h2, odC_eq, h3]
   simp only [heavyA, hc, callV]
   cases evalT G t f with
   | none => rfl
   | some g => cases evs (evalT G t) c.args.toList <;> rfl
  | _ =>
   show (match c.callee with
     | .value f => (⟨fun t σ => callV P G σ ((odC G f).run t) (evsC G c.args.toList t)⟩ : OpC)
     | _ => ⟨fun t σ => opX P G (evalT G t) σ (.call c)⟩).run t σ = _
   rw [hc]
 | _ => rfl

/-! Temporaries are set. -/
structure PuC where
 run : PT AV → AV → Nat → (PT AV → CR) → CR
structure PtC where
 run : AV → PT AV → PT AV
noncomputable def ptC (j : Nat) : PtC :=
 bif Nat.ble j 255 then ⟨fun v t => PT.rec (motive := fun _ => PT AV) (fun s m l => ⟨(updC (Nat.div j 16)).run s ((updC (Nat.mod j 16)).run ((selC (Nat.div j 16)).run s) (some v)), m, l⟩) t⟩
 else ⟨fun v t => t.put (some v) j⟩
theorem ptC_eq (j : Nat) (v : AV) (t : PT AV) : (ptC j).run v t = t.put (some v) j := by
 unfold ptC
 cases h : Nat.ble j 255 with
 | true =>
  cases t with
  | mk s m l => exact (PT.put_s (some v) s m l ((ble_iff j 255).1 h)).symm
 | false => rfl
noncomputable def putF (j : Nat) (v : AV) (t : PT AV) : PT AV := (ptC j).run v t
theorem putF_eq (j : Nat) (v : AV) (t : PT AV) : putF j v t = t.put (some v) j := ptC_eq j v t
noncomputable def puC (n : Nat) (dst : Option Nat) : PuC :=
 match dst with
 | none => ⟨fun t _ _ k => k t⟩
 | some j => bif Nat.ble (Nat.succ j) n then ⟨fun t v _ k => k (putF j v t)⟩ else ⟨fun _ _ e _ => .err e⟩
theorem puC_eq (n : Nat) (dst : Option Nat) (t : PT AV) (v : AV) (e : Nat) (k : PT AV → CR) : (puC n dst).run t v e k = match putT t n dst v with | some t' => k t' | none => .err e := by
 cases dst with
 | none => rfl
 | some j =>
  show (bif Nat.ble (Nat.succ j) n then (⟨fun t v _ k => k (putF j v t)⟩ : PuC) else ⟨fun _ _ e _ => .err e⟩).run t v e k = _
  show _ = match (bif Nat.ble (Nat.succ j) n then some (t.put (some v) j) else none) with | some t' => k t' | none => .err e
  rw [← putF_eq]
  cases Nat.ble (Nat.succ j) n <;> rfl

/-! Calls. -/
structure FnC where
 run : IhC → List AV → AHeap → KR
noncomputable def retF (P : Program) (G : Cx) (ih : IhC) (fn : Func) (r : CR) : KR :=
 match r with
 | .ok .normal t d σ => endX P G ih fn .ret t d σ
 | .ok .ret t d σ => endX P G ih fn .ret t d σ
 | .ok (.pan v) t d σ => endX P G ih fn (.pan v) t d σ
 | .err k => .err k
 | _ => .err 72
noncomputable def fnGo (P : Program) (G : Cx) (fn : Func) (c : Code) (ih : IhC) (args : List AV) (σ : AHeap) : KR :=
 Option.rec (motive := fun _ => KR) (.err 73) (fun t => retF P G ih fn (ih c t fn.ntmps [] none σ)) (argsT fn.ntmps args)
noncomputable def fnC (P : Program) (G : Cx) (f : Nat) : FnC :=
 match nth P.funcs.toList f with
 | some fn => match fn.body with
  | some c => ⟨fnGo P G fn c⟩
  | none => ⟨fun _ _ _ => .err 73⟩
 | none => ⟨fun _ _ _ => .err 74⟩
theorem fnC_eq (P : Program) (G : Cx) (f : Nat) (ih : IhC) (args : List AV) (σ : AHeap) : (fnC P G f).run ih args σ = callC P G ih f args σ := by
 unfold fnC callC
 rw [nth_eq, Array.getElem?_toList]
 cases P.funcs[f]? with
 | none => rfl
 | some fn =>
  dsimp only
  cases hb : fn.body with
  | none => rfl
  | some c =>
   dsimp only
   show fnGo P G fn c ih args σ = _
   unfold fnGo
   cases argsT fn.ntmps args with
   | none => rfl
   | some t => rfl
noncomputable def callF (P : Program) (G : Cx) (ih : IhC) (f : Nat) (args : List AV) (σ : AHeap) : KR :=
 Option.rec (motive := fun _ => KR) (Option.rec (motive := fun _ => KR) (Option.rec (motive := fun _ => KR) (Option.rec (motive := fun _ => KR) (bif G.fk f then noPanK (forkY P G ih f args σ) else (fnC P G f).run ih args σ) (fun c => .err c) (G.stop f args σ)) (fun e => .ret e.v (layM σ e)) (findM G.gl G.laid G.mem f args σ)) (fun v => bif allFlat args && (flatB v && laidGo G.gl σ G.laid) then .ret v σ else .err 79) (G.tbl f args)) (fun v => bif flatB v then .ret v σ else .err 78) (G.ktb f args σ)
theorem callF_eq (P : Program) (G : Cx) (ih : IhC) (f : Nat) (args : List AV) (σ : AHeap) : callF P G ih f args σ = callX P G ih f args σ := by
 unfold callF callX
 rw [fnC_eq]
 cases G.ktb f args σ with
 | some v => rfl
 | none =>
 dsimp only
 cases G.tbl f args with
 | some v => rfl
 | none =>
  dsimp only
  cases findM G.gl G.laid G.mem f args σ with
  | some e => rfl
  | none =>
   dsimp only
   cases G.stop f args σ <;> rfl

/-! Operations. -/
structure StC where
 run : IhC → PT AV → AHeap → (PT AV → AHeap → CR) → CR
noncomputable def kAt (k : PT AV → AHeap → CR) (σ : AHeap) (t : PT AV) : CR := k t σ
noncomputable def krF (pn : Bool) (c : PuC) (t : PT AV) (k : PT AV → AHeap → CR) (r : KR) : CR :=
 KR.rec (motive := fun _ => CR) (fun v σ => c.run t v 80 (kAt k σ)) (fun v σ => panX pn v t σ) (fun e => .err e) r
noncomputable def hrF (P : Program) (G : Cx) (ih : IhC) (pn : Bool) (c : PuC) (t : PT AV) (k : PT AV → AHeap → CR) (r : HR) : CR :=
 HR.rec (motive := fun _ => CR) (fun v σ => c.run t v 80 (kAt k σ)) (fun σ => c.run t unit 80 (kAt k σ)) (fun f args σ => krF pn c t k (callF P G ih f args σ)) (fun l args σ => krF pn c t k (roundX ih l args σ)) (fun v σ => panX pn v t σ) (fun e => .err e) r
noncomputable def wantF (ops : Array Oper) (o : Oper) (c : PuC) (t : PT AV) (σ : AHeap) (k : PT AV → AHeap → CR) (go : CR) (w : Option Bool) : CR :=
 Option.rec (motive := fun _ => CR) (.err 85) (fun b => bif b then go else c.run t unit 84 (kAt k σ)) w
/-- What comes to a value, straight. -/
noncomputable def stV (P : Program) (G : Cx) (j : Nat) (op : Op) : Option StC :=
 match op with
 | .move x => some ⟨fun _ t σ k => Option.rec (motive := fun _ => CR) (.err 1001) (fun v => k ((ptC j).run v t) σ) ((odC G x).run t)⟩
 | .assign x => some ⟨fun _ t σ k => Option.rec (motive := fun _ => CR) (.err 1002) (fun v => k ((ptC j).run v t) σ) ((odC G x).run t)⟩
 | .binOp o ty x y _ => some ⟨fun _ t σ k => Option.rec (motive := fun _ => CR) (.err 1014) (fun v => k ((ptC j).run v t) σ) (b2F (biC P (isK x || isK y) o ty) ((odC G x).run t) ((odC G y).run t))⟩
 | .extract x i => some ⟨fun _ t σ k => Option.rec (motive := fun _ => CR) (.err 1036) (fun v => k ((ptC j).run v t) σ) (exF i ((odC G x).run t))⟩
 | .load ty x => some ⟨fun _ t σ k => Option.rec (motive := fun _ => CR) (.err 2009) (fun v => k ((ptC j).run v t) σ) (loadF (aggOf P ty) σ ((odC G x).run t))⟩
 | .fieldAddr s x i => some ⟨fun _ t σ k => Option.rec (motive := fun _ => CR) (.err 1024) (fun v => k ((ptC j).run v t) σ) (faF (faOff P s i) ((odC G x).run t))⟩
 | .indexAddr ty x i => some ⟨fun _ t σ k => Option.rec (motive := fun _ => CR) (.err 1026) (fun v => k ((ptC j).run v t) σ) (iaF (iaInfo P ty) ((odC G x).run t) ((odC G i).run t))⟩
 | _ => none
theorem stV_eq {P : Program} {G : Cx} {pn : Bool} {n j : Nat} (hj : Nat.ble (Nat.succ j) n = true) {op : Op} {c : StC} (h : stV P G j op = some c) (ih : IhC) (t : PT AV) (σ : AHeap) (k : PT AV → AHeap → CR) :
  c.run ih t σ k = hrF P G ih pn (puC n (some j)) t k ((opC P G op).run t σ) := by
 have key : ∀ (e : Nat) (x : Option AV), Option.rec (motive := fun _ => CR) (.err e) (fun v => k ((ptC j).run v t) σ) x = hrF P G ih pn (puC n (some j)) t k (valF σ e x) := by
  intro e x
  cases x with
  | none => rfl
  | some v =>
   show k ((ptC j).run v t) σ = (puC n (some j)).run t v 80 (kAt k σ)
   unfold puC
   dsimp only
   rw [hj]
   rfl
 cases op <;> first | (cases h; done) | (cases h; exact key _ _)
noncomputable def stS (P : Program) (G : Cx) (pn : Bool) (n : Nat) (o : Oper) : StC :=
 match o.dst with
 | some j => bif Nat.ble (Nat.succ j) n then (match stV P G j o.op with | some c => c | none => ⟨fun ih t σ k => hrF P G ih pn (puC n (some j)) t k ((opC P G o.op).run t σ)⟩) else ⟨fun ih t σ k => hrF P G ih pn (puC n (some j)) t k ((opC P G o.op).run t σ)⟩
 | none => ⟨fun ih t σ k => hrF P G ih pn (puC n none) t k ((opC P G o.op).run t σ)⟩
theorem stS_eq (P : Program) (G : Cx) (pn : Bool) (n : Nat) (o : Oper) (ih : IhC) (t : PT AV) (σ : AHeap) (k : PT AV → AHeap → CR) : (stS P G pn n o).run ih t σ k = hrF P G ih pn (puC n o.dst) t k ((opC P G o.op).run t σ) := by
 unfold stS
 cases hd : o.dst with
 | none => rfl
 | some j =>
  dsimp only
  cases hj : Nat.ble (Nat.succ j) n with
  | false => rfl
  | true =>
   simp only [cond_true]
   cases hv : stV P G j o.op with
   | none => rfl
   | some c => exact stV_eq hj hv ih t σ k
noncomputable def stC (P : Program) (G : Cx) (pn : Bool) (ops : Array Oper) (n : Nat) (o : Oper) : StC :=
 match o.guard with
 | none => stS P G pn n o
 | some _ => ⟨fun ih t σ k => wantF ops o (puC n o.dst) t σ k (hrF P G ih pn (puC n o.dst) t k ((opC P G o.op).run t σ)) (wantedA ops t o)⟩
theorem hrF_eq (P : Program) (G : Cx) (ih : IhC) (pn : Bool) (n : Nat) (dst : Option Nat) (t : PT AV) (k : PT AV → AHeap → CR) (r : HR) :
  hrF P G ih pn (puC n dst) t k r = match effX P G ih r with | .ret v σ' => (match putT t n dst v with | some t' => k t' σ' | none => .err 80) | .pan v σ' => panX pn v t σ' | .err e => .err e := by
 cases r with
 | val v σ => show (puC n dst).run t v 80 (kAt k σ) = _; rw [puC_eq]; rfl
 | skip σ => show (puC n dst).run t unit 80 (kAt k σ) = _; rw [puC_eq]; rfl
 | enter f args σ =>
  show krF pn (puC n dst) t k (callF P G ih f args σ) = _
  rw [callF_eq]
  show _ = match callX P G ih f args σ with | .ret v σ' => _ | .pan v σ' => _ | .err e => _
  cases callX P G ih f args σ with
  | ret v σ' => show (puC n dst).run t v 80 (kAt k σ') = _; rw [puC_eq]; rfl
  | pan v σ' => rfl
  | err e => rfl
 | round l args σ =>
  show krF pn (puC n dst) t k (roundX ih l args σ) = _
  show _ = match roundX ih l args σ with | .ret v σ' => _ | .pan v σ' => _ | .err e => _
  cases roundX ih l args σ with
  | ret v σ' => show (puC n dst).run t v 80 (kAt k σ') = _; rw [puC_eq]; rfl
  | pan v σ' => rfl
  | err e => rfl
 | pan v σ => rfl
 | err e => rfl
theorem stC_eq (P : Program) (G : Cx) (pn : Bool) (ops : Array Oper) (n : Nat) (o : Oper) (ih : IhC) (t : PT AV) (σ : AHeap) (k : PT AV → AHeap → CR) : (stC P G pn ops n o).run ih t σ k = oneX P G ih pn ops n o t σ k := by
 unfold stC oneX
 cases hg : o.guard with
 | none =>
  have : wantedA ops t o = some true := by unfold wantedA; rw [hg]
  rw [this]
  show (stS P G pn n o).run ih t σ k = _
  rw [stS_eq, hrF_eq, opC_eq]
  all_goals rfl
 | some jw =>
  show wantF ops o (puC n o.dst) t σ k (hrF P G ih pn (puC n o.dst) t k ((opC P G o.op).run t σ)) (wantedA ops t o) = _
  rw [hrF_eq, opC_eq]
  unfold wantF
  cases wantedA ops t o with
  | none => rfl
  | some b =>
   cases b with
   | true => rfl
   | false => show (puC n o.dst).run t unit 84 (kAt k σ) = _; rw [puC_eq]; rfl

/-! Regions. -/
noncomputable def regC (P : Program) (G : Cx) (ops : Array Oper) (n : Nat) (l : List Oper) : StC :=
 List.rec (motive := fun _ => StC) ⟨fun _ t σ k => k t σ⟩ (fun o _ c => ⟨fun ih t σ k => (stC P G true ops n o).run ih t σ (fun t σ => c.run ih t σ k)⟩) l
noncomputable def endF (d : List DE) (t : PT AV) (σ : AHeap) : CR := .ok .normal t d σ
theorem regC_eq (P : Program) (G : Cx) (ops : Array Oper) (n : Nat) (ih : IhC) (d : List DE) : ∀ (l : List Oper) (t : PT AV) (σ : AHeap), (regC P G ops n l).run ih t σ (endF d) = opsX P G ih ops n d l t σ
 | [], t, σ => rfl
 | o :: l, t, σ => by
  show (stC P G true ops n o).run ih t σ (fun t σ => (regC P G ops n l).run ih t σ (endF d)) = oneX P G ih true ops n o t σ (opsX P G ih ops n d l)
  rw [stC_eq]
  congr 1
  funext t' σ'
  exact regC_eq P G ops n ih d l t' σ'
noncomputable def againC (P : Program) (G : Cx) (ops : Array Oper) (rc : List Nat) (k : PT AV → AHeap → CR) (t : PT AV) (σ : AHeap) : CR := bif stillAll P G ops t σ rc then k t σ else .err 86
noncomputable def planC (P : Program) (G : Cx) (ops : Array Oper) (n : Nat) (l : List (Nat × List Nat)) : StC :=
 List.rec (motive := fun _ => StC) ⟨fun _ t σ k => k t σ⟩ (fun p _ c => match nth ops.toList p.1 with
  | some o => (match p.2 with
   | [] => ⟨fun ih t σ k => (stC P G false ops n o).run ih t σ (fun t σ => c.run ih t σ k)⟩
   | rc => ⟨fun ih t σ k => (stC P G false ops n o).run ih t σ (againC P G ops rc (fun t σ => c.run ih t σ k))⟩)
  | none => ⟨fun _ _ _ _ => .err 87⟩) l
theorem planC_eq (P : Program) (G : Cx) (ops : Array Oper) (n : Nat) (ih : IhC) (d : List DE) : ∀ (l : List (Nat × List Nat)) (t : PT AV) (σ : AHeap), (planC P G ops n l).run ih t σ (endF d) = planX P G ih ops n d l t σ
 | [], t, σ => rfl
 | (i, rc) :: l, t, σ => by
  show (match nth ops.toList i with
   | some o => (match rc with
    | [] => (⟨fun ih t σ k => (stC P G false ops n o).run ih t σ (fun t σ => (planC P G ops n l).run ih t σ k)⟩ : StC)
    | rc => ⟨fun ih t σ k => (stC P G false ops n o).run ih t σ (againC P G ops rc (fun t σ => (planC P G ops n l).run ih t σ k))⟩)
   | none => ⟨fun _ _ _ _ => .err 87⟩).run ih t σ (endF d) = (match ops[i]? with
   | some o => oneX P G ih false ops n o t σ (fun t' σ' => bif stillAll P G ops t' σ' rc then planX P G ih ops n d l t' σ' else .err 86)
   | none => .err 87)
  rw [nth_eq, Array.getElem?_toList]
  cases ops[i]? with
  | none => rfl
  | some o =>
   dsimp only
   cases rc with
   | nil =>
    show (stC P G false ops n o).run ih t σ (fun t σ => (planC P G ops n l).run ih t σ (endF d)) = _
    rw [stC_eq]
    congr 1
    funext t' σ'
    exact planC_eq P G ops n ih d l t' σ'
   | cons q rc =>
    show (stC P G false ops n o).run ih t σ (againC P G ops (q :: rc) (fun t σ => (planC P G ops n l).run ih t σ (endF d))) = _
    rw [stC_eq]
    congr 1
    funext t' σ'
    unfold againC
    dsimp only
    rw [planC_eq P G ops n ih d l t' σ']

/-! Code. -/
structure CoC where
 run : IhC → PT AV → List DE → Option Pos → AHeap → CR
noncomputable def coC (P : Program) (G : Cx) (c : Code) (n : Nat) : CoC :=
 match c with
 | .skip | .label _ => ⟨fun _ t d _ σ => .ok .normal t d σ⟩
 | .region _ ops draw => bif draw then (bif fastOK P ops then ⟨fun ih t d _ σ => (planC P G ops n (plan P ops)).run ih t σ (endF d)⟩ else ⟨fun _ _ _ _ _ => .err 88⟩)
   else (bif hasDef ops.toList then ⟨fun _ t d ro σ => defX P G ops n ro d t σ⟩ else ⟨fun ih t d _ σ => fixD d ((regC P G ops n ops.toList).run ih t σ (endF d))⟩)
 | .seq a b => ⟨fun ih t d ro σ => seqX (ih a t n d ro σ) (fun t d σ => ih b t n d ro σ)⟩
 | .cond x a b => ⟨fun ih t d ro σ => condX ((odC G x).run t) (ih a t n d ro σ) (ih b t n d ro σ)⟩
 | .block id b => ⟨fun ih t d ro σ => blockX id (ih b t n d ro σ)⟩
 | .scope b => ⟨fun ih t d ro σ => scopeX (ih b t n d ro σ)⟩
 | .loop b => ⟨fun ih t d ro σ => seqX (ih b t n d ro σ) (fun t d σ => ih (.loop b) t n d ro σ)⟩
 | .exit id => ⟨fun _ t d _ σ => .ok (.exit id) t d σ⟩
 | .ret => ⟨fun _ t d _ σ => .ok .ret t d σ⟩
 | .rangeFunc g ps assign body => ⟨fun ih t d ro σ => rangeX P G ih g ps assign body t n d ro σ⟩
 | _ => ⟨fun _ _ _ _ _ => .err 99⟩
theorem coC_eq (P : Program) (G : Cx) (c : Code) (n : Nat) (ih : IhC) (t : PT AV) (d : List DE) (ro : Option Pos) (σ : AHeap) : (coC P G c n).run ih t d ro σ = stepX P G ih c t n d ro σ := by
 cases c with
 | region id ops draw =>
  cases draw with
  | false =>
   show (bif hasDef ops.toList then (⟨fun _ t d ro σ => defX P G ops n ro d t σ⟩ : CoC) else ⟨fun ih t d _ σ => fixD d ((regC P G ops n ops.toList).run ih t σ (endF d))⟩).run ih t d ro σ = bif hasDef ops.toList then defX P G ops n ro d t σ else fixD d (opsX P G ih ops n d ops.toList t σ)
   cases hasDef ops.toList with
   | true => rfl
   | false =>
    show fixD d ((regC P G ops n ops.toList).run ih t σ (endF d)) = fixD d (opsX P G ih ops n d ops.toList t σ)
    rw [regC_eq]
  | true =>
   show (bif fastOK P ops then (⟨fun ih t d _ σ => (planC P G ops n (plan P ops)).run ih t σ (endF d)⟩ : CoC) else ⟨fun _ _ _ _ _ => .err 88⟩).run ih t d ro σ = drawX P G ih ops n d t σ
   unfold drawX
   cases fastOK P ops with
   | false => rfl
   | true => exact planC_eq P G ops n ih d (plan P ops) t σ
 | cond x a b => show condX ((odC G x).run t) _ _ = _; rw [odC_eq]; rfl
 | _ => rfl

noncomputable def runF (P : Program) (G : Cx) (fuel : Nat) : IhC := Nat.rec (motive := fun _ => IhC) (fun _ _ _ _ _ _ => .err 100) (fun _ ih c t n d ro σ => (coC P G c n).run ih t d ro σ) fuel
theorem runF_eq (P : Program) (G : Cx) : ∀ (fuel : Nat), runF P G fuel = runX P G fuel
 | 0 => rfl
 | k + 1 => by
  funext c t n d ro σ
  show (coC P G c n).run (runF P G k) t d ro σ = stepX P G (runX P G k) c t n d ro σ
  rw [coC_eq, runF_eq P G k]

/-- A call, as the kernel reckons it. -/
noncomputable def evalF (P : Program) (G : Cx) (fuel : Nat) (f : Nat) (args : List AV) (σ : AHeap) : KR := callF P G (runF P G fuel) f args σ
theorem evalF_eq (P : Program) (G : Cx) (fuel : Nat) (f : Nat) (args : List AV) (σ : AHeap) : evalF P G fuel f args σ = evalCall P G fuel f args σ := by
 unfold evalF evalCall
 rw [callF_eq, runF_eq]
end Go.Ev

/- Package variables that read as a known datum: their cells; the world in which a call begins that finds them. -/
namespace Go.Ev
variable [Env]
open Go.ChangeShapes Go.WideShapes Go.ChangeAt Go.RowKit

/-- The cells of a plain datum: parts one behind the other. -/
noncomputable def flatG (one : TypeId → DataW Unit → Option (List Value)) (P : Program) : List (Nat × TypeId) → Nat → List (DataW Unit) → Option (List Value)
 | [], _, [] => some []
 | (o, t) :: l, off, d :: ds =>
  match one t d, flatG one P l (off + P.cellsOf t) ds with
  | some vs, some us => if o = off ∧ vs.length = P.cellsOf t then some (vs ++ us) else none
  | _, _ => none
 | _, _, _ => none
noncomputable def flatD (P : Program) : Nat → TypeId → DataW Unit → Option (List Value)
 | 0, _, _ => none
 | n + 1, t, d =>
  match P.underlying t, d with
  | some .bool, .lit (.bool b) => some [.bool b]
  | some (.int k), .lit (.int k' i) => if k' = k then some [.int k i] else none
  | some (.struct fs), .agg ps => match flatG (flatD P n) P (fs.toList.map fun f => (f.offset, f.type)) 0 ps with
   | some vs => if vs.length = P.cellsOf t then some vs else none
   | none => none
  | some (.array m e), .agg ps => match flatG (flatD P n) P ((List.range m).map fun i => (i * P.cellsOf e, e)) 0 ps with
   | some vs => if vs.length = P.cellsOf t then some vs else none
   | none => none
  | _, _ => none

theorem flatG_eq {P : Program} {w : World} {base : Nat} {sp : Nat → Bool} {held : Bool} {fuel : Nat} {one : TypeId → DataW Unit → Option (List Value)} {cs : List Value}
  (ih : ∀ t l d p vs, DataW.trod (fun _ => ()) P w base sp held fuel t l = some (d, p) → one t d = some vs → l = vs) {α : Type} (g : α → Nat × TypeId) :
  ∀ (l : List α) (off : Nat) (xs : List (DataW Unit × List MemPlace)) (vs : List Value),
   (l.mapM fun x => DataW.trod (fun _ => ()) P w base sp held fuel (g x).2 ((cs.drop (g x).1).take (P.cellsOf (g x).2))) = some xs → flatG one P (l.map g) off (xs.map (·.1)) = some vs →
   (cs.drop off).take vs.length = vs
 | [], off, xs, vs, h, hf => by
  simp at h; subst h
  simp [flatG] at hf; subst hf; simp
 | x :: l, off, xs, vs, h, hf => by
  simp only [List.mapM_cons, Option.bind_eq_bind, Option.bind_eq_some_iff, Option.pure_def, Option.some.injEq] at h
  obtain ⟨⟨d, p⟩, h1, r, h2, rfl⟩ := h
  simp only [List.map_cons, flatG] at hf
  split at hf
  ·rename_i v1 v2 e1 e2
   split at hf
   ·rename_i hc
    obtain ⟨ho, hl⟩ := hc
    cases hf
    have k1 := ih _ _ _ _ _ h1 e1
    have k2 := flatG_eq ih g l _ r v2 h2 e2
    rw [List.length_append, List.take_add, hl, List.drop_drop, k2, ← ho, k1]
   ·cases hf
  ·cases hf

theorem flatD_eq {P : Program} {w : World} {base : Nat} {sp : Nat → Bool} {held : Bool} : ∀ (m fuel : Nat) (t : TypeId) (cs : List Value) (d : DataW Unit) (p : List MemPlace) (vs : List Value),
  DataW.trod (fun _ => ()) P w base sp held fuel t cs = some (d, p) → flatD P m t d = some vs → cs = vs
 | 0, _, _, _, _, _, _, _, h => by cases h
 | _ + 1, 0, _, _, _, _, _, h, _ => by simp [DataW.trod] at h
 | m + 1, fuel + 1, t, cs, d, p, vs, h, hf => by
  have ih : ∀ t l d p vs, DataW.trod (fun _ => ()) P w base sp held fuel t l = some (d, p) → flatD P m t d = some vs → l = vs := fun t l d p vs => flatD_eq m fuel t l d p vs
  simp only [flatD] at hf
  split at hf
  ·rename_i hu
   cases hf
   unfold DataW.trod at h
   rw [hu] at h
   split at h <;> simp_all
  ·rename_i hu
   split at hf
   ·rename_i hk
    cases hf
    unfold DataW.trod at h
    rw [hu] at h
    split at h <;> simp_all
   ·cases hf
  ·rename_i fs ps hu
   split at hf
   ·rename_i vs' hg
    split at hf
    ·rename_i hl
     cases hf
     unfold DataW.trod at h
     rw [hu] at h
     dsimp only at h
     split at h
     ·rename_i hcl
      obtain ⟨xs, hm, hx⟩ := Option.map_eq_some_iff.1 h
      have hps : ps = xs.map (·.1) := by have := congrArg Prod.fst hx; simpa using this.symm
      subst hps
      have := flatG_eq (cs := cs) ih (fun f : Field => (f.offset, f.type)) fs.toList 0 xs vs hm hg
      rw [List.drop_zero, hl, ← hcl, List.take_length] at this
      exact this
     ·cases h
    ·cases hf
   ·cases hf
  ·rename_i n e ps hu
   split at hf
   ·rename_i vs' hg
    split at hf
    ·rename_i hl
     cases hf
     unfold DataW.trod at h
     rw [hu] at h
     dsimp only at h
     split at h
     ·rename_i hcl
      obtain ⟨xs, hm, hx⟩ := Option.map_eq_some_iff.1 h
      have hps : ps = xs.map (·.1) := by have := congrArg Prod.fst hx; simpa using this.symm
      subst hps
      have := flatG_eq (cs := cs) ih (fun i : Nat => (i * P.cellsOf e, e)) (List.range n) 0 xs vs hm hg
      rw [List.drop_zero, hl, ← hcl, List.take_length] at this
      exact this
     ·cases h
    ·cases hf
   ·cases hf
  ·cases hf

/-- A listed variable's block. -/
theorem laid_block {P : Program} {w : World} {l : List (String × DataW Unit)} (n : String) {d : DataW Unit} {g : Nat} {t : TypeId} {m : Nat} {vs : List Value}
  (h : laidMetH P l w) (hl : l.filter (fun x => x.1 == n) = [(n, d)]) (hd : d.handleName? = none) (hg : P.globalNamed n = some g) (ht : (P.globals[g]?).map (·.type) = some t) (hf : flatD P m t d = some vs) :
  ∃ e fr, w.heap[g]? = some (.cells vs.toArray e fr) := by
 have h1 := h.filter fun x => x.1 == n
 rw [hl] at h1
 have h2 : laidMet P [(n, d)] w := by
  unfold laidMetH at h1
  simp only [List.filter_cons, hd, List.filter_nil, Option.isSome_none] at h1
  exact h1
 obtain ⟨ps, ⟨g', t', cs, fuel, p, q, k1, k2, k3, k4, _, _⟩, _, _⟩ := h2
 rw [hg] at k1; cases k1
 rw [ht] at k2; cases k2
 have k5 := flatD_eq m fuel t cs.toList d p vs k4 hf
 unfold World.var? at k3
 rw [hg] at k3
 simp only [Option.bind_some] at k3
 split at k3
 ·rename_i cs' e fr hh
  cases k3
  exact ⟨e, fr, by rw [hh, ← k5]⟩
 ·cases k3

theorem allSome_at {α β : Type} {f : α → Option β} : ∀ {l : List α} {r : List β}, allSome f l = some r → r.length = l.length ∧ ∀ (i : Nat) (v : β), r[i]? = some v → ∃ y, l[i]? = some y ∧ f y = some v
 | [], r, h => by
  rw [allSome_nil] at h; cases h
  exact ⟨rfl, fun i v hv => by simp at hv⟩
 | x :: l, r, h => by
  obtain ⟨y, r', h1, h2, rfl⟩ := allSome_cons h
  obtain ⟨k1, k2⟩ := allSome_at h2
  refine ⟨by simp [k1], fun i v hv => ?_⟩
  cases i with
  | zero => simp at hv; subst hv; exact ⟨x, rfl, h1⟩
  | succ i =>
   simp only [List.getElem?_cons_succ] at hv ⊢
   exact k2 i v hv
/-- A variable's block, as the evaluator has it. -/
theorem LaidIs.of {w : World} {g : Nat} {cells : List AV} {vs : List Value} {e : TypeId} {fr : Nat × Nat} (hb : w.heap[g]? = some (.cells vs.toArray e fr)) (hv : allSome ofLeaf vs = some cells) : LaidIs w (g, cells) := by
 obtain ⟨k1, k2⟩ := allSome_at hv
 refine ⟨vs.toArray, e, fr, hb, by simp [k1], fun i v hi => ?_⟩
 obtain ⟨y, hy, hv'⟩ := k2 i v hi
 exact ⟨y, by simpa using hy, ofLeaf_sound hv'⟩

/-- The heap in which package variables lie, to be read alone: whatever their elements' types. -/
noncomputable def σG (gl : Nat) (l : List (Nat × List AV)) (E : Nat → TypeId) : AHeap := ⟨gl, laidPT l E⟩
theorem σG_get {gl : Nat} {l : List (Nat × List AV)} {E : Nat → TypeId} {b : Nat} {o : AObj} (h : (σG gl l E).m.get b = some o) : ∃ x ∈ l, x.1 = b ∧ o = .row x.2 (E x.1) true := laidPT_get E h

def sizeAt (w : World) (b : Nat) : Nat :=
 match w.heap[b]? with
 | some (.cells cs _ _) => cs.size
 | _ => 0
def elemAt (w : World) (b : Nat) : TypeId :=
 match w.heap[b]? with
 | some (.cells _ e _) => e
 | _ => 0
def ρG (w : World) (gl : Nat) : Ren := fun b => if b < gl then some ⟨b, 0, sizeAt w b⟩ else none
theorem ρG_some {w : World} {gl : Nat} {b : Nat} {l : Loc} (h : ρG w gl b = some l) : b < gl ∧ l = ⟨b, 0, sizeAt w b⟩ := by
 unfold ρG at h
 split at h
 ·rename_i hb; cases h; exact ⟨hb, rfl⟩
 ·cases h
/-- Are the laid variables' numbers and cells well formed? -/
noncomputable def wfLaid (gl : Nat) (l : List (Nat × List AV)) : Bool := l.all fun x => Nat.blt x.1 gl && allFlat x.2

theorem invG {w : World} {gl : Nat} {l : List (Nat × List AV)} (ho : OldW w) (hgl : gl ≤ w.heap.size) (hwf : wfLaid gl l = true) (hl : ∀ x ∈ l, LaidIs w x) : Inv (ρG w gl) (σG gl l (elemAt w)) w := by
 have hwf' : ∀ x ∈ l, x.1 < gl ∧ allFlat x.2 = true := fun x hx => by
  have := List.all_eq_true.1 hwf x hx
  rw [Bool.and_eq_true, blt_iff] at this
  exact this
 refine ⟨⟨fun b hb => ?_, fun b l' h => ?_, fun b o l' h1 h2 => ?_, fun b b' o o' l1 l2 h1 h2 h3 h4 he hne => ?_⟩, ho.1, ho.2, fun r _ ⟨b, o, l', h1, h2, _, _⟩ => by
  obtain ⟨x, _, _, rfl⟩ := σG_get h1
  cases h2⟩
 ·have hb' : ¬ b < gl := Nat.not_lt.2 hb
  refine ⟨by unfold ρG; rw [if_neg hb'], ?_⟩
  cases h : (σG gl l (elemAt w)).m.get b with
  | none => rfl
  | some o =>
   obtain ⟨x, hx, rfl, _⟩ := σG_get h
   exact absurd (hwf' x hx).1 hb'
 ·obtain ⟨hb, rfl⟩ := ρG_some h
  exact Nat.lt_of_lt_of_le hb hgl
 ·obtain ⟨x, hx, rfl, rfl⟩ := σG_get h1
  obtain ⟨hb, rfl⟩ := ρG_some h2
  obtain ⟨c, e, fr, k1, k2, k3⟩ := hl x hx
  have hs : sizeAt w x.1 = c.size := by unfold sizeAt; rw [k1]
  have he : elemAt w x.1 = e := by unfold elemAt; rw [k1]
  refine ⟨_, k1, c, fr, by rw [he], ?_, ?_, fun i v hv => ?_, fun h => by cases h⟩
  ·simp [hs]
  ·show x.2.length ≤ sizeAt w x.1
   rw [hs]; exact k2
  ·obtain ⟨y, hy, hv'⟩ := k3 i v hv
   exact ⟨y, by simpa using hy, flat_any (allFlat_mem (hwf' x hx).2 v (List.mem_of_getElem? hv)) hv'⟩
 ·obtain ⟨x, hx, rfl, rfl⟩ := σG_get h1
  obtain ⟨y, hy, rfl, rfl⟩ := σG_get h2
  exact ⟨rfl, rfl⟩

theorem Keeps.of_stpG {w w' : World} {gl : Nat} {l : List (Nat × List AV)} {E : Nat → TypeId} {ρ ρ' : Ren} {σ' : AHeap} (h : Stp ρ (σG gl l E) w ρ' σ' w') : Keeps w w' :=
 ⟨h.os, h.out, h.tape, h.size, fun r hr => h.frame r hr fun ⟨b, o, l', h1, h2, _⟩ => by
  obtain ⟨x, _, _, rfl⟩ := σG_get h1
  cases h2⟩

/-! Closed calls. -/
def saysTrue : KR → Bool
 | .ret (.bool true) _ => true
 | _ => false
theorem saysTrue_ret {r : KR} (h : saysTrue r = true) : ∃ σ, r = .ret (.bool true) σ := by
 unfold saysTrue at h
 split at h
 ·exact ⟨_, rfl⟩
 ·cases h

/-- A call without arguments that the evaluator tells to be true. -/
theorem calls_true {P : Program} {G : Cx} (hm : P.follows .mixedOrders = true) (hC : CxOK P G) {fuel f : Nat} {w : World} (ho : OldW w) (hgl : G.gl ≤ w.heap.size) (hwf : wfLaid G.gl G.laid = true) (hl : ∀ x ∈ G.laid, LaidIs w x)
  (h : ∀ E, saysTrue (evalF P G fuel f [] (σG G.gl G.laid E)) = true) : Calls P f #[] w fun e w' => e = .returned (.bool true) ∧ Keeps w w' := by
 have h := h (elemAt w)
 rw [evalF_eq] at h
 obtain ⟨σ, h⟩ := saysTrue_ret h
 refine evalCall_sound hm hC h (invG ho hgl hwf hl) (fun g hg => ⟨_, by show ρG w G.gl g = _; unfold ρG; rw [if_pos hg]⟩) VRs.nil fun ρ' w' x _ st hv => ?_
 simp only [VR] at hv
 exact ⟨by rw [hv], Keeps.of_stpG st⟩

/-- A known call. -/
theorem known_true {P : Program} {G : Cx} (hm : P.follows .mixedOrders = true) (hC : CxOK P G) {fuel f : Nat} (hwf : wfLaid G.gl G.laid = true) (h : ∀ E, saysTrue (evalF P G fuel f [] (σG G.gl G.laid E)) = true) : Known P G.gl G.laid f [] (.bool true) := fun w xs hgl ho hl hx => by
 have : xs = #[] := by
  have := hx.nil_inv
  rw [← Array.toList_inj]; exact this
 subst this
 exact (calls_true hm hC (w := w) ho hgl hwf hl h).mono fun e w' ⟨h1, h2⟩ => ⟨_, h1, by simp only [VR], h2⟩

/-! Calls reckoned apart. -/
noncomputable def retOK (r : KR) (e : ME) : Bool :=
 match r with
 | .ret v σ => bif beqV v e.v then (bif Nat.beq σ.next e.next' then subL e.l' σ else false) else false
 | _ => false
noncomputable def goodM (P : Program) (G : Cx) (fuel : Nat) (E : Nat → TypeId) (e : ME) : Bool := retOK (evalF P G fuel e.f e.args (baseM G.laid E e)) e
theorem ans_of {P : Program} {G : Cx} (hm : P.follows .mixedOrders = true) (hC : CxOK P G) {fuel : Nat} {e : ME} (hw : wfM G.gl G.laid e = true) (h : ∀ E, goodM P G fuel E e = true) : Ans P G.gl G.laid e := by
 refine ⟨hw, fun E ρ w xs rl m R hi hg hx hR => ?_⟩
 have h := h E
 unfold goodM at h
 rw [evalF_eq] at h
 unfold retOK at h
 split at h
 ·rename_i v σ hr
  rw [ite_cond] at h
  split at h
  ·rename_i hv
   rw [ite_cond] at h
   split at h
   ·rename_i hn
    have ev := beqV_eq hv
    subst ev
    exact call_sound (run_sound hm hC fuel) hr hi hg hx rl m fun ρ' w' x i s hv => hR ρ' σ w' x (subL_all h) (Nat.eq_of_beq_eq_true hn) i s hv
   ·cases h
  ·cases h
 ·cases h
end Go.Ev

