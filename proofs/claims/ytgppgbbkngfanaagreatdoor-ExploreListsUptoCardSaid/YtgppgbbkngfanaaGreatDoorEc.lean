/- Part of the proof: an evaluator of the model's code, rules for walks on it, walks. Without conditions. -/
import Derived.Test.YtgppgbbkngfanaaGreatDoorEb
import Init
import Derived.Sort.AssemblyPlain
import Derived.KernelRfl
set_option linter.unusedSectionVars false
set_option linter.unusedVariables false
set_option linter.unusedSimpArgs false
noncomputable section
namespace Go.Ev
variable [Env]
def tiles (P : Program) : List Field → Nat → Option Nat
  | [], off => some off
  | f :: r, off => if f.offset = off then tiles P r (off + P.cellsOf f.type) else none
def HasD {H : Type} (P : Program) (σ : AHeap) : Nat → TypeId → DataW H → List AV → Prop
  | 0, _, _, _ => False
  | fuel + 1, t, d, vs =>
    match P.underlying t, d with
    | some .bool, .lit (.bool b) => vs = [.bool b]
    | some (.int k), .lit (.int k' n) => k' = k ∧ (Lit.int k n).wf = true ∧ vs = [.int k n]
    | some .string, .lit (.string s) => s.length ≤ maxLen ∧ vs = [.str (s.map UInt8.toNat)]
    | some (.slice _), .nil => vs = [.nilSlice]
    | some (.slice e), .slice elems spare => 1 ≤ P.cellsOf e → ∃ (b : Nat) (c : Cap) (cells : List AV) (e' : Nat), vs = [.slice b 0 elems.length c] ∧ elems.length ≤ maxLen ∧ σ.m.get b = some (.row cells e' true) ∧
        (c = .known (elems.length + spare.length) ∨ c = .upto (P.cellsOf e)) ∧ cells.length = elems.length * P.cellsOf e ∧
        ∀ (i : Nat) (x : DataW H), elems[i]? = some x → HasD P σ fuel e x ((cells.drop (i * P.cellsOf e)).take (P.cellsOf e))
    | some (.struct fs), .agg parts => tiles P fs.toList 0 = some (P.cellsOf t) → parts.length = fs.size ∧ vs.length = P.cellsOf t ∧
        ∀ (i : Nat) (f : Field) (x : DataW H), fs[i]? = some f → parts[i]? = some x → HasD P σ fuel f.type x ((vs.drop f.offset).take (P.cellsOf f.type))
    | some (.array n e), .agg parts => P.cellsOf t = n * P.cellsOf e → parts.length = n ∧ vs.length = P.cellsOf t ∧
        ∀ (i : Nat) (x : DataW H), parts[i]? = some x → HasD P σ fuel e x ((vs.drop (i * P.cellsOf e)).take (P.cellsOf e))
    | _, _ => True
theorem HasD.mono {H : Type} {P : Program} {σ σ' : AHeap} (he : ∀ (b : Pos) (o : AObj), σ.m.get b = some o → σ'.m.get b = some o) : ∀ (fuel : Nat) (t : TypeId) (d : DataW H) (vs : List AV), HasD P σ fuel t d vs → HasD P σ' fuel t d vs
  | 0, _, _, _, h => h
  | fuel + 1, t, d, vs, h => by
    unfold HasD at h ⊢
    split at h
    · exact h
    · exact h
    · exact h
    · exact h
    · intro h1
      obtain ⟨b, c, cells, e', k1, k2, k3, k4, k5, k6⟩ := h h1
      exact ⟨b, c, cells, e', k1, k2, he _ _ k3, k4, k5, fun i x hx => HasD.mono he fuel _ _ _ (k6 i x hx)⟩
    · intro h1
      obtain ⟨k1, k2, k3⟩ := h h1
      exact ⟨k1, k2, fun i f x hf hx => HasD.mono he fuel _ _ _ (k3 i f x hf hx)⟩
    · intro h1
      obtain ⟨k1, k2, k3⟩ := h h1
      exact ⟨k1, k2, fun i x hx => HasD.mono he fuel _ _ _ (k3 i x hx)⟩
    · trivial
theorem VRs.flatten {ρ : Ren} : ∀ {vss : List (List AV)} {css : List (List Value)}, vss.length = css.length → (∀ (i : Nat) (vs : List AV) (cs : List Value), vss[i]? = some vs → css[i]? = some cs → VRs ρ vs cs) → VRs ρ vss.flatten css.flatten
  | [], [], _, _ => VRs.nil
  | [], _ :: _, h, _ => by simp at h
  | _ :: _, [], h, _ => by simp at h
  | vs :: vss, cs :: css, h, hh => by
    rw [List.flatten_cons, List.flatten_cons]
    exact (hh 0 vs cs rfl rfl).append (VRs.flatten (by simpa using h) fun i a b ha hb => hh (i + 1) a b (by simpa using ha) (by simpa using hb))
theorem flatten_piece {α : Type} {m : Nat} : ∀ {l : List (List α)} {i : Nat} {x : List α}, (∀ y ∈ l, y.length = m) → l[i]? = some x → (l.flatten.drop (i * m)).take m = x
  | [], i, x, _, h => by simp at h
  | y :: l, 0, x, hm, h => by
    simp at h; subst h
    have hy := hm y (by simp)
    simp [← hy]
  | y :: l, i + 1, x, hm, h => by
    have hy := hm y (by simp)
    simp only [List.getElem?_cons_succ] at h
    rw [List.flatten_cons, show (i + 1) * m = y.length + i * m by rw [hy, Nat.succ_mul, Nat.add_comm], List.drop_append, List.drop_eq_nil_of_le (by omega), List.nil_append, Nat.add_sub_cancel_left]
    exact flatten_piece (fun z hz => hm z (by simp [hz])) h
theorem flatten_length {α : Type} {m : Nat} : ∀ {l : List (List α)}, (∀ y ∈ l, y.length = m) → l.flatten.length = l.length * m
  | [], _ => by simp
  | y :: l, hm => by
    rw [List.flatten_cons, List.length_append, hm y (by simp), flatten_length fun z hz => hm z (by simp [hz]), List.length_cons, Nat.succ_mul, Nat.add_comm]
theorem tiles_flatten {α : Type} {P : Program} : ∀ {fs : List Field} {off fin : Nat} {cs : List α}, tiles P fs off = some fin → fin ≤ cs.length → (fs.map fun f => (cs.drop f.offset).take (P.cellsOf f.type)).flatten = (cs.drop off).take (fin - off) ∧ off ≤ fin
  | [], off, fin, cs, h, _ => by simp only [tiles, Option.some.injEq] at h; subst h; simp
  | f :: fs, off, fin, cs, h, hl => by
    simp only [tiles] at h
    split at h
    · rename_i ho
      obtain ⟨h1, h2⟩ := tiles_flatten h hl
      refine ⟨?_, by omega⟩
      rw [List.map_cons, List.flatten_cons, h1, ho]
      rw [show fin - off = P.cellsOf f.type + (fin - (off + P.cellsOf f.type)) by omega, List.take_add, List.drop_drop]
    · cases h
theorem tiles_piece {α : Type} {P : Program} : ∀ {fs : List Field} {vss : List (List α)} {off fin : Nat}, tiles P fs off = some fin → (∀ (i : Nat) (f : Field) (vs : List α), fs[i]? = some f → vss[i]? = some vs → vs.length = P.cellsOf f.type) → vss.length = fs.length →
    ∀ {i : Nat} {f : Field} {vs : List α}, fs[i]? = some f → vss[i]? = some vs → off ≤ f.offset ∧ (vss.flatten.drop (f.offset - off)).take (P.cellsOf f.type) = vs
  | [], vss, off, fin, h, hl, hn, i, f, vs, hf, hv => by simp at hf
  | g :: fs, [], off, fin, h, hl, hn, i, f, vs, hf, hv => by simp at hv
  | g :: fs, w :: vss, off, fin, h, hl, hn, i, f, vs, hf, hv => by
    simp only [tiles] at h
    split at h
    · rename_i ho
      have hw := hl 0 g w rfl rfl
      cases i with
      | zero =>
        simp_all
      | succ i =>
        simp only [List.getElem?_cons_succ] at hf hv
        obtain ⟨h1, h2⟩ := tiles_piece h (fun i f vs a b => hl (i + 1) f vs (by simpa using a) (by simpa using b)) (by simpa using hn) hf hv
        grind [List.drop_append, List.drop_eq_nil_of_le]
    · cases h
def AllRo (σ : AHeap) : Prop := ∀ b o, σ.m.get b = some o → o.ro = true
structure Lay (ρ : Ren) (σ : AHeap) (ρ' : Ren) (σ' : AHeap) : Prop where
  le : ρ.le ρ'
  get : ∀ (b : Pos) (o : AObj), σ.m.get b = some o → σ'.m.get b = some o
theorem Lay.refl (ρ : Ren) (σ : AHeap) : Lay ρ σ ρ σ := ⟨Ren.le_refl ρ, fun _ _ h => h⟩
theorem Lay.trans {ρ ρ₁ ρ₂ : Ren} {σ σ₁ σ₂ : AHeap} (h : Lay ρ σ ρ₁ σ₁) (h' : Lay ρ₁ σ₁ ρ₂ σ₂) : Lay ρ σ ρ₂ σ₂ := ⟨Ren.le_trans h.le h'.le, fun b o hb => h'.get b o (h.get b o hb)⟩
theorem Inv.layRo {ρ : Ren} {σ : AHeap} {w : World} (hi : Inv ρ σ w) (hr : AllRo σ) {l : Loc} {o : AObj} {x : Obj} (hx : w.heap[l.blk]? = some x) (ho : ObjR ρ l o x) (hro : o.ro = true) :
    Inv (ρ.with σ.next l) (σ.alloc o) w ∧ AllRo (σ.alloc o) ∧ Lay ρ σ (ρ.with σ.next l) (σ.alloc o) := by
  have hle := hi.with_le l
  have hlt : l.blk < w.heap.size := (Array.getElem?_eq_some_iff.1 hx).1
  have hnew : ∀ b l', b ≠ σ.next → (ρ.with σ.next l) b = some l' → ρ b = some l' := fun b l' hb h => by rwa [Ren.with_other ρ l hb] at h
  have hget : ∀ b, b ≠ σ.next → (σ.alloc o).m.get b = σ.m.get b := fun b hb => PT.get_put_other _ _ _ _ hb
  have hsame : (σ.alloc o).m.get σ.next = some o := PT.get_put_same _ _ _
  have hall : AllRo (σ.alloc o) := fun b q hb => by
    by_cases e : b = σ.next
    · simp_all
    · rw [hget b e] at hb; exact hr b q hb
  refine ⟨⟨⟨fun b hb => ?_, fun b l' hb => ?_, fun b o' l' hb hl' => ?_, fun b b' o₁ o₂ l₁ l₂ h1 h2 _ _ _ _ => ⟨hall b o₁ h1, hall b' o₂ h2⟩⟩, hi.old.size, hi.old.same, fun r _ ⟨b, o, l, h1, h2, _, _⟩ => by rw [hall b o h1] at h2; cases h2⟩, hall, hle, fun b q hb => ?_⟩
  · have hb' : σ.next.num + 1 ≤ b.num := by simpa [AHeap.alloc, Pos.num_succ] using hb
    have hne : b ≠ σ.next := fun e => by subst e; omega
    rw [Ren.with_other ρ l hne, hget b hne]
    exact hi.fresh b (by omega)
  · by_cases hne : b = σ.next
    · subst hne; rw [Ren.with_same] at hb; cases hb; exact hlt
    · exact hi.blk b l' (hnew b l' hne hb)
  · by_cases hne : b = σ.next
    · subst hne
      rw [Ren.with_same] at hl'
      rw [hsame] at hb
      cases hb; cases hl'
      exact ⟨x, hx, ho.mono hle⟩
    · rw [hget b hne] at hb
      obtain ⟨y, hy, hr'⟩ := hi.obj b o' l' hb (hnew b l' hne hl')
      exact ⟨y, hy, hr'.mono hle⟩
  · have hne : b ≠ σ.next := fun e => by subst e; rw [(hi.fresh _ (Nat.le_refl _)).2] at hb; cases hb
    simp_all
section
variable {H : Type} {enc : TypeId × Value → H} {P : Program} {w : World}
def LayOK (enc : TypeId × Value → H) (P : Program) (w : World) (fuel : Nat) (t : TypeId) (cs : List Value) (d : DataW H) : Prop :=
  ∀ (ρ : Ren) (σ : AHeap), Inv ρ σ w → AllRo σ → ∃ (ρ' : Ren) (σ' : AHeap) (vs : List AV), Inv ρ' σ' w ∧ AllRo σ' ∧ Lay ρ σ ρ' σ' ∧ HasD P σ' fuel t d vs ∧ VRs ρ' vs cs
theorem anys {ρ : Ren} : ∀ (cs : List Value), VRs ρ (cs.map fun _ => AV.any) cs
  | [] => VRs.nil
  | _ :: cs => VRs.cons (by simp only [VR]) (anys cs)
theorem layPieces {fuel : Nat} (ih : ∀ t cs d p, DataW.trod enc P w 0 (fun _ => true) true fuel t cs = some (d, p) → LayOK enc P w fuel t cs d) :
    ∀ (l : List (TypeId × List Value)) (xs : List (DataW H × List MemPlace)), (l.mapM fun q => DataW.trod enc P w 0 (fun _ => true) true fuel q.1 q.2) = some xs → ∀ (ρ : Ren) (σ : AHeap), Inv ρ σ w → AllRo σ →
      ∃ (ρ' : Ren) (σ' : AHeap) (vss : List (List AV)), Inv ρ' σ' w ∧ AllRo σ' ∧ Lay ρ σ ρ' σ' ∧ vss.length = l.length ∧ xs.length = l.length ∧ ∀ (i : Nat) (q : TypeId × List Value) (x : DataW H × List MemPlace) (vs : List AV), l[i]? = some q → xs[i]? = some x → vss[i]? = some vs → HasD P σ' fuel q.1 x.1 vs ∧ VRs ρ' vs q.2
  | [], xs, h, ρ, σ, hi, hr => by
    simp at h; subst h
    exact ⟨ρ, σ, [], hi, hr, Lay.refl _ _, rfl, rfl, fun i q x vs hq => by simp at hq⟩
  | q :: l, xs, h, ρ, σ, hi, hr => by
    simp only [List.mapM_cons, Option.bind_eq_bind, Option.bind_eq_some_iff, Option.pure_def, Option.some.injEq] at h
    obtain ⟨⟨d, p⟩, h1, r, h2, rfl⟩ := h
    obtain ⟨ρ₁, σ₁, vs, i1, r1, l1, d1, v1⟩ := ih _ _ _ _ h1 ρ σ hi hr
    obtain ⟨ρ₂, σ₂, vss, i2, r2, l2, n1, n2, hh⟩ := layPieces ih l r h2 ρ₁ σ₁ i1 r1
    refine ⟨ρ₂, σ₂, vs :: vss, i2, r2, l1.trans l2, by simp [n1], by simp [n2], fun i q' x vs' hq hx hv => ?_⟩
    cases i with
    | zero =>
      simp at hq hx hv
      subst hq; subst hx; subst hv
      exact ⟨HasD.mono l2.get _ _ _ _ d1, VRs.mono l2.le _ _ v1⟩
    | succ i => grind
theorem mapM_get {α β : Type} {f : α → Option β} : ∀ {l : List α} {ys : List β}, l.mapM f = some ys → ys.length = l.length ∧ ∀ (i : Nat) (y : β), ys[i]? = some y → ∃ x, l[i]? = some x ∧ f x = some y
  | [], ys, h => by simp_all
  | x :: l, ys, h => by
    simp only [List.mapM_cons, Option.bind_eq_bind, Option.bind_eq_some_iff, Option.pure_def, Option.some.injEq] at h
    obtain ⟨y, h1, r, h2, rfl⟩ := h
    obtain ⟨k1, k2⟩ := mapM_get h2
    grind
theorem mapM_bind {α β γ : Type} {f : α → Option β} {g : β → Option γ} : ∀ {l : List α} {xs : List γ}, (l.mapM fun a => (f a).bind g) = some xs → ∃ ys, l.mapM f = some ys ∧ ys.mapM g = some xs
  | [], xs, h => by simp_all
  | a :: l, xs, h => by
    simp only [List.mapM_cons, Option.bind_eq_bind, Option.bind_eq_some_iff, Option.pure_def, Option.some.injEq] at h
    obtain ⟨x, ⟨b, h1, h2⟩, r, h3, rfl⟩ := h
    obtain ⟨ys, k1, k2⟩ := mapM_bind h3
    simp_all
theorem mapM_map {α β γ : Type} {f : α → β} {g : β → Option γ} : ∀ (l : List α), (l.map f).mapM g = l.mapM fun a => g (f a)
  | [] => rfl
  | a :: l => by simp only [List.map_cons, List.mapM_cons, mapM_map l]
theorem chunks_flatten {α : Type} {m : Nat} (L : List α) : ∀ (n : Nat), ((List.range n).map fun k => (L.drop (k * m)).take m).flatten = L.take (n * m)
  | 0 => by simp
  | n + 1 => by
    rw [List.range_succ, List.map_append, List.flatten_append, chunks_flatten L n]
    simp only [List.map_cons, List.map_nil, List.flatten_cons, List.flatten_nil, List.append_nil]
    rw [Nat.succ_mul, List.take_add]
theorem cells_read {a : Addr} {n : Nat} {cs : List Value} (h : w.cells? 0 a n = some cs) (hn : 1 ≤ n) : ∃ (c : Array Value) (e : TypeId) (fr : Nat × Nat), w.heap[a.block]? = some (Obj.cells c e fr) ∧ a.spot = none ∧ a.off + n ≤ c.size ∧ cs = (c.toList.drop a.off).take n := by
  unfold World.cells? at h
  rw [if_pos (Nat.zero_le _)] at h
  obtain ⟨k1, k2⟩ := mapM_get h
  have k1 : cs.length = n := by simpa using k1
  have h0 : ∃ (c : Array Value) (e : TypeId) (fr : Nat × Nat), w.heap[a.block]? = some (Obj.cells c e fr) ∧ a.spot = none := by
    have hlt : 0 < cs.length := by omega
    obtain ⟨x, hx, hc⟩ := k2 0 cs[0] (List.getElem?_eq_getElem hlt)
    have : x = 0 := by
      grind
    subst this
    have ha : a.add 0 = a := by simp [Addr.add]
    rw [ha] at hc
    unfold World.cell? at hc
    split at hc
    · simp_all
    · cases hc
  obtain ⟨c, e, fr, hh, hs⟩ := h0
  have hcell : ∀ i y, cs[i]? = some y → c[a.off + i]? = some y := fun i y hy => by
    grind [Addr.add_eq, cell?_of_heap]
  have hsz : a.off + n ≤ c.size := by
    have hlt : n - 1 < cs.length := by omega
    have := hcell (n - 1) cs[n - 1] (List.getElem?_eq_getElem hlt)
    grind
  refine ⟨c, e, fr, hh, hs, hsz, ?_⟩
  apply List.ext_getElem?
  grind
theorem tiles_le {P : Program} : ∀ {fs : List Field} {off fin : Nat}, tiles P fs off = some fin → ∀ f ∈ fs, f.offset + P.cellsOf f.type ≤ fin
  | [], off, fin, h, f, hf => by cases hf
  | g :: fs, off, fin, h, f, hf => by
    simp only [tiles] at h
    split at h
    · rename_i ho
      rcases List.mem_cons.1 hf with rfl | hf
      · have := (tiles_flatten (P := P) (cs := List.replicate fin ()) h (by simp)).2
        omega
      · exact tiles_le h f hf
    · cases h
theorem laySlice (hw : ∃ (r : Nat) (c : Array Value) (e : TypeId) (fr : Nat × Nat), w.heap[r]? = some (Obj.cells c e fr)) {fuel : Nat} (ih : ∀ t cs d p, DataW.trod enc P w 0 (fun _ => true) true fuel t cs = some (d, p) → LayOK enc P w fuel t cs d) {t e : TypeId} {a : Addr} {len cap : Nat} {d : DataW H} {p : List MemPlace} (hu : P.underlying t = some (.slice e))
    (h : (if 0 ≤ a.block ∧ len ≤ cap ∧ cap ≤ maxLen then
        ((List.range len).mapM fun i => (w.cells? 0 (a.add (i * P.cellsOf e)) (P.cellsOf e)).bind (DataW.trod enc P w 0 (fun _ => true) true fuel e)).bind fun elems =>
          (if (fun _ => true) a.block = true then (List.range (cap - len)).mapM fun j => (w.cells? 0 (a.add ((len + j) * P.cellsOf e)) (P.cellsOf e)).bind (DataW.trod enc P w 0 (fun _ => true) true fuel e) else some []).map fun rest =>
            (DataW.slice (elems.map (·.1)) (rest.map (·.1)), MemPlace.row a ((elems.length + rest.length) * P.cellsOf e) ++ (elems ++ rest).flatMap (·.2))
      else none) = some (d, p)) {ρ : Ren} {σ : AHeap} (hi : Inv ρ σ w) (hr : AllRo σ) :
    ∃ (ρ' : Ren) (σ' : AHeap) (vs : List AV), Inv ρ' σ' w ∧ AllRo σ' ∧ Lay ρ σ ρ' σ' ∧ HasD P σ' (fuel + 1) t d vs ∧ VRs ρ' vs [Value.slice (some a) len cap] := by
  split at h
  · rename_i hc
    obtain ⟨_, hlc, hcm⟩ := hc
    obtain ⟨elems, hE, h⟩ := Option.bind_eq_some_iff.1 h
    obtain ⟨rest, hR, h⟩ := Option.map_eq_some_iff.1 h
    rw [if_pos rfl] at hR
    have hd : d = .slice (elems.map (·.1)) (rest.map (·.1)) := by have := congrArg Prod.fst h; simpa using this.symm
    subst hd
    have hel : elems.length = len := by have := (mapM_get hE).1; simpa using this
    have hrl : rest.length = cap - len := by have := (mapM_get hR).1; simpa using this
    by_cases hsz : 1 ≤ P.cellsOf e
    · obtain ⟨css, hcs, hex⟩ := mapM_bind hE
      obtain ⟨kcs, hcs'⟩ := mapM_get hcs
      have kcs : css.length = len := by simpa using kcs
      have hadd : ∀ k, (a.add k).block = a.block ∧ (a.add k).off = a.off + k := fun k => by
        unfold Addr.add
        split
        · rename_i h0; subst h0; exact ⟨rfl, rfl⟩
        · exact ⟨rfl, rfl⟩
      have hadd0 : a.add 0 = a := by simp [Addr.add]
      by_cases h0 : len = 0 ∧ cap = 0
      · obtain ⟨rfl, rfl⟩ := h0
        obtain ⟨r, c, e', fr, hh⟩ := hw
        have hobj : ObjR ρ ⟨r, 0, c.size⟩ (.row [] e' true) (.cells c e' fr) := ⟨c, fr, rfl, by simp, by simp, fun i v hv => by simp at hv, fun h => by cases h⟩
        obtain ⟨i1, r1, l1⟩ := hi.layRo hr hh hobj rfl
        refine ⟨_, _, [.slice σ.next 0 0 (.upto (P.cellsOf e))], i1, r1, l1, ?_, VRs.cons ?_ VRs.nil⟩
        · unfold HasD
          rw [hu]
          dsimp only
          intro _
          have he0 : elems = [] := List.eq_nil_of_length_eq_zero hel
          subst he0
          exact ⟨σ.next, _, [], e', rfl, by simp, PT.get_put_same _ _ _, .inr rfl, by simp, fun i x hx => by simp at hx⟩
        · simp only [VR]
          refine ⟨_, Ren.with_same _ _ _, .inr ?_⟩
          simp
      · have hblk : ∃ (c : Array Value) (e' : TypeId) (fr : Nat × Nat), w.heap[a.block]? = some (Obj.cells c e' fr) ∧ a.spot = none ∧ a.off ≤ c.size := by
          have go : ∀ cs : List Value, w.cells? 0 a (P.cellsOf e) = some cs → ∃ (c : Array Value) (e' : TypeId) (fr : Nat × Nat), w.heap[a.block]? = some (Obj.cells c e' fr) ∧ a.spot = none ∧ a.off ≤ c.size := fun cs hk => by
            obtain ⟨c, e', fr, h1, h2, h3, _⟩ := cells_read hk hsz
            exact ⟨c, e', fr, h1, h2, by omega⟩
          by_cases hl : len = 0
          · subst hl
            obtain ⟨dss, hds, _⟩ := mapM_bind hR
            obtain ⟨k1, k2⟩ := mapM_get hds
            have k1 : dss.length = cap - 0 := by simpa using k1
            have hlt : 0 < dss.length := by omega
            obtain ⟨x, hx0, hx⟩ := k2 0 dss[0] (List.getElem?_eq_getElem hlt)
            have : x = 0 := by rw [List.getElem?_range (by omega)] at hx0; exact (Option.some.inj hx0).symm
            subst this
            rw [Nat.zero_add, Nat.zero_mul, hadd0] at hx
            exact go _ hx
          · have hlt : 0 < css.length := by omega
            obtain ⟨x, hx0, hx⟩ := hcs' 0 css[0] (List.getElem?_eq_getElem hlt)
            have : x = 0 := by rw [List.getElem?_range (by omega)] at hx0; exact (Option.some.inj hx0).symm
            subst this
            rw [Nat.zero_mul, hadd0] at hx
            exact go _ hx
        obtain ⟨c, e', fr, hh, hspot, hoff⟩ := hblk
        have hpc : ∀ (i : Nat) (y : List Value), css[i]? = some y → a.off + (i + 1) * P.cellsOf e ≤ c.size ∧ y = ((c.toList.drop a.off).drop (i * P.cellsOf e)).take (P.cellsOf e) := fun i y hy => by
          obtain ⟨x, hx, hxy⟩ := hcs' i y hy
          have hi' : i < len := by rw [← kcs]; exact (List.getElem?_eq_some_iff.1 hy).1
          have : x = i := by rw [List.getElem?_range hi'] at hx; exact (Option.some.inj hx).symm
          subst this
          obtain ⟨c2, e2, fr2, h1, h2, h3, h4⟩ := cells_read hxy hsz
          obtain ⟨q1, q3⟩ := hadd (x * P.cellsOf e)
          rw [q1, hh] at h1
          cases h1
          rw [q3] at h3 h4
          exact ⟨by rw [Nat.succ_mul]; omega, by rw [h4, List.drop_drop]⟩
        have hsize : a.off + len * P.cellsOf e ≤ c.size := by
          by_cases hl : len = 0
          · subst hl; omega
          · have hlt : len - 1 < css.length := by omega
            have := (hpc (len - 1) css[len - 1] (List.getElem?_eq_getElem hlt)).1
            rwa [show len - 1 + 1 = len by omega] at this
        have hcsl : ∀ (i : Nat) (y : List Value), css[i]? = some y → y.length = P.cellsOf e := fun i y hy => by
          obtain ⟨k1, k2⟩ := hpc i y hy
          rw [k2, List.length_take, List.length_drop, List.length_drop, Array.length_toList]
          rw [Nat.succ_mul] at k1
          omega
        have hcseq : css = (List.range len).map fun k => ((c.toList.drop a.off).drop (k * P.cellsOf e)).take (P.cellsOf e) := by
          apply List.ext_getElem?
          intro i
          rw [List.getElem?_map]
          by_cases hi' : i < len
          · rw [List.getElem?_range hi']
            have hlt : i < css.length := by omega
            rw [List.getElem?_eq_getElem hlt]
            exact congrArg some (hpc i css[i] (List.getElem?_eq_getElem hlt)).2
          · rw [List.getElem?_eq_none (by omega), List.getElem?_eq_none (by simp; omega)]; rfl
        obtain ⟨ρ₁, σ₁, vss, i1, r1, l1, n1, n2, hh'⟩ := layPieces ih (css.map fun cs => (e, cs)) elems (by rw [mapM_map]; exact hex) ρ σ hi hr
        have n1 : vss.length = css.length := by simpa using n1
        have hV : VRs ρ₁ vss.flatten css.flatten := VRs.flatten n1 fun i vs cs hv hc' => by
          have hlt : i < elems.length := by rw [hel, ← kcs]; exact (List.getElem?_eq_some_iff.1 hc').1
          exact (hh' i (e, cs) elems[i] vs (by rw [List.getElem?_map, hc']; rfl) (List.getElem?_eq_getElem hlt) hv).2
        have hvl : ∀ vs ∈ vss, vs.length = P.cellsOf e := fun vs hv => by
          obtain ⟨i, hi', rfl⟩ := List.getElem_of_mem hv
          have hlt : i < css.length := by omega
          have hlt2 : i < elems.length := by omega
          have := (hh' i (e, css[i]) elems[i] vss[i] (by rw [List.getElem?_map, List.getElem?_eq_getElem hlt]; rfl) (List.getElem?_eq_getElem hlt2) (List.getElem?_eq_getElem hi')).2.length
          rw [← this]
          exact hcsl i _ (List.getElem?_eq_getElem hlt)
        have hfl : vss.flatten.length = len * P.cellsOf e := by rw [flatten_length hvl, n1, kcs]
        rw [hcseq, chunks_flatten] at hV
        have hobj : ObjR ρ₁ ⟨a.block, a.off, c.size - a.off⟩ (.row vss.flatten e' true) (.cells c e' fr) := by
          refine ⟨c, fr, rfl, by show c.size = a.off + (c.size - a.off); omega, by rw [hfl]; show _ ≤ c.size - a.off; omega, fun i v hv => ?_, fun h => by cases h⟩
          obtain ⟨y, hy, hvy⟩ := hV.get hv
          rw [List.getElem?_take] at hy
          split at hy
          · rw [List.getElem?_drop, Array.getElem?_toList] at hy
            exact ⟨y, hy, hvy⟩
          · cases hy
        obtain ⟨i2, r2, l2⟩ := i1.layRo r1 hh hobj rfl
        refine ⟨_, _, [.slice σ₁.next 0 len (.known cap)], i2, r2, l1.trans l2, ?_, VRs.cons ?_ VRs.nil⟩
        · unfold HasD
          rw [hu]
          dsimp only
          intro _
          refine ⟨σ₁.next, _, vss.flatten, e', by rw [List.length_map, hel], by rw [List.length_map, hel]; omega, PT.get_put_same _ _ _, .inl (by rw [List.length_map, List.length_map, hel, hrl]; congr 1; omega), by rw [hfl, List.length_map, hel], fun i x hx => ?_⟩
          rw [List.getElem?_map] at hx
          cases hy : elems[i]? with
          | none => rw [hy] at hx; cases hx
          | some y =>
            rw [hy] at hx
            cases hx
            have hi' : i < len := by rw [← hel]; exact (List.getElem?_eq_some_iff.1 hy).1
            have hlt : i < css.length := by omega
            have hlt2 : i < vss.length := by omega
            rw [flatten_piece hvl (List.getElem?_eq_getElem hlt2)]
            exact HasD.mono l2.get _ _ _ _ (hh' i (e, css[i]) y vss[i] (by rw [List.getElem?_map, List.getElem?_eq_getElem hlt]; rfl) hy (List.getElem?_eq_getElem hlt2)).1
        · simp only [VR]
          refine ⟨_, Ren.with_same _ _ _, ?_⟩
          obtain ⟨ab, ao, as⟩ := a
          dsimp only at hspot ⊢
          subst hspot
          rfl
    · refine ⟨ρ, σ, [.any], hi, hr, Lay.refl _ _, ?_, VRs.cons (by simp only [VR]) VRs.nil⟩
      unfold HasD
      rw [hu]
      exact fun h' => absurd h' hsz
  · cases h
theorem lay (hw : ∃ (r : Nat) (c : Array Value) (e : TypeId) (fr : Nat × Nat), w.heap[r]? = some (Obj.cells c e fr)) : ∀ (fuel : Nat) (t : TypeId) (cs : List Value) (d : DataW H) (p : List MemPlace), DataW.trod enc P w 0 (fun _ => true) true fuel t cs = some (d, p) → LayOK enc P w fuel t cs d
  | 0, t, cs, d, p, h => by simp [DataW.trod] at h
  | fuel + 1, t, cs, d, p, h => by
    intro ρ σ hi hr
    have ih := lay hw fuel
    have other : (∀ vs : List AV, HasD P σ (fuel + 1) t d vs) → ∃ (ρ' : Ren) (σ' : AHeap) (vs : List AV), Inv ρ' σ' w ∧ AllRo σ' ∧ Lay ρ σ ρ' σ' ∧ HasD P σ' (fuel + 1) t d vs ∧ VRs ρ' vs cs := fun hd =>
      ⟨ρ, σ, _, hi, hr, Lay.refl _ _, hd _, anys cs⟩
    have one : ∀ {v : AV} {x : Value}, cs = [x] → (∀ ρ : Ren, VR ρ v x) → HasD P σ (fuel + 1) t d [v] → ∃ (ρ' : Ren) (σ' : AHeap) (vs : List AV), Inv ρ' σ' w ∧ AllRo σ' ∧ Lay ρ σ ρ' σ' ∧ HasD P σ' (fuel + 1) t d vs ∧ VRs ρ' vs cs := fun {v x} hc hv hd => by
      subst hc
      exact ⟨ρ, σ, [v], hi, hr, Lay.refl _ _, hd, VRs.cons (hv ρ) VRs.nil⟩
    cases hu : P.underlying t with
    | none => exact other fun vs => by unfold HasD; rw [hu]; trivial
    | some u =>
      unfold DataW.trod at h
      rw [hu] at h
      cases u with
      | bool =>
        split at h <;> first | (rename_i he; cases he; done) | skip
        all_goals first
          | (rename_i b he
             cases h
             exact one (v := .bool b) rfl (fun ρ => by simp only [VR]) (by unfold HasD; rw [hu]))
          | cases h
      | int k =>
        split at h <;> first | (rename_i he; cases he; done) | skip
        all_goals first
          | (rename_i k1 k2 n he
             cases he
             split at h
             · rename_i hk
               obtain ⟨hk1, hk2⟩ := hk
               subst hk1
               cases h
               exact one (v := .int k2 n) rfl (fun ρ => by simp only [VR]) (by unfold HasD; rw [hu]; exact ⟨rfl, hk2, rfl⟩)
             · cases h)
          | cases h
      | string =>
        split at h <;> first | (rename_i he; cases he; done) | skip
        all_goals first
          | (rename_i s he
             split at h
             · rename_i hk
               cases h
               exact one (v := .str (s.data.toList.map UInt8.toNat)) rfl (fun ρ => by simp only [VR]; exact ⟨s, rfl, rfl⟩) (by unfold HasD; rw [hu]; exact ⟨by simpa using hk, rfl⟩)
             · cases h)
          | cases h
      | struct fs =>
        dsimp only at h
        split at h
        · rename_i hlen
          obtain ⟨xs, hxs, hx⟩ := Option.map_eq_some_iff.1 h
          have hd : d = .agg (xs.map (·.1)) := by have := congrArg Prod.fst hx; simpa using this.symm
          subst hd
          by_cases ht : tiles P fs.toList 0 = some (P.cellsOf t)
          · obtain ⟨ρ₁, σ₁, vss, i1, r1, l1, n1, n2, hh⟩ := layPieces ih (fs.toList.map fun f => (f.type, (cs.drop f.offset).take (P.cellsOf f.type))) xs (by rw [mapM_map]; exact hxs) ρ σ hi hr
            have hflat := (tiles_flatten (cs := cs) ht (by omega)).1
            have hle := tiles_le ht
            have n1 : vss.length = fs.toList.length := by simpa using n1
            have n2 : xs.length = fs.toList.length := by simpa using n2
            have hpc : ∀ (i : Nat) (f : Field) (vs : List AV), fs.toList[i]? = some f → vss[i]? = some vs → ∃ x, xs[i]? = some x ∧ HasD P σ₁ fuel f.type x.1 vs ∧ VRs ρ₁ vs ((cs.drop f.offset).take (P.cellsOf f.type)) := fun i f vs hf hv => by
              have hlt : i < xs.length := by rw [n2]; exact (List.getElem?_eq_some_iff.1 hf).1
              obtain ⟨k1, k2⟩ := hh i (f.type, (cs.drop f.offset).take (P.cellsOf f.type)) xs[i] vs (by rw [List.getElem?_map, hf]; rfl) (List.getElem?_eq_getElem hlt) hv
              exact ⟨xs[i], List.getElem?_eq_getElem hlt, k1, k2⟩
            have hvl : ∀ (i : Nat) (f : Field) (vs : List AV), fs.toList[i]? = some f → vss[i]? = some vs → vs.length = P.cellsOf f.type := fun i f vs hf hv => by
              obtain ⟨x, _, _, k⟩ := hpc i f vs hf hv
              have h1 := k.length
              have h2 := hle f (List.mem_of_getElem? hf)
              rw [List.length_take, List.length_drop] at h1
              omega
            have hV : VRs ρ₁ vss.flatten cs := by
              have := VRs.flatten (ρ := ρ₁) (vss := vss) (css := fs.toList.map fun f => (cs.drop f.offset).take (P.cellsOf f.type)) (by simpa using n1) (fun i vs c hv hc => by
                rw [List.getElem?_map] at hc
                cases hf : fs.toList[i]? with
                | none => rw [hf] at hc; cases hc
                | some f =>
                  rw [hf] at hc
                  cases hc
                  obtain ⟨x, _, _, k⟩ := hpc i f vs hf hv
                  exact k)
              rw [hflat, List.drop_zero, Nat.sub_zero, ← hlen, List.take_length] at this
              exact this
            refine ⟨ρ₁, σ₁, vss.flatten, i1, r1, l1, ?_, hV⟩
            unfold HasD
            rw [hu]
            dsimp only
            intro _
            refine ⟨by simpa using n2, by rw [← hlen]; exact hV.length.symm, fun i f x hf hx => ?_⟩
            have hf' : fs.toList[i]? = some f := by rw [Array.getElem?_toList]; exact hf
            have hlt : i < vss.length := by rw [n1]; exact (List.getElem?_eq_some_iff.1 hf').1
            obtain ⟨_, hp⟩ := tiles_piece ht hvl n1 hf' (List.getElem?_eq_getElem hlt)
            obtain ⟨y, hy, k, _⟩ := hpc i f vss[i] hf' (List.getElem?_eq_getElem hlt)
            rw [List.getElem?_map, hy] at hx
            cases hx
            rw [Nat.sub_zero] at hp
            rw [hp]
            exact k
          · exact other fun vs => by unfold HasD; rw [hu]; exact fun h' => absurd h' ht
        · cases h
      | array m e =>
        dsimp only at h
        split at h
        · rename_i hlen
          obtain ⟨xs, hxs, hx⟩ := Option.map_eq_some_iff.1 h
          have hd : d = .agg (xs.map (·.1)) := by have := congrArg Prod.fst hx; simpa using this.symm
          subst hd
          by_cases ht : P.cellsOf t = m * P.cellsOf e
          · obtain ⟨ρ₁, σ₁, vss, i1, r1, l1, n1, n2, hh⟩ := layPieces ih ((List.range m).map fun i => (e, (cs.drop (i * P.cellsOf e)).take (P.cellsOf e))) xs (by rw [mapM_map]; exact hxs) ρ σ hi hr
            have n1 : vss.length = m := by simpa using n1
            have n2 : xs.length = m := by simpa using n2
            have hpc : ∀ (i : Nat) (vs : List AV), vss[i]? = some vs → ∃ x, xs[i]? = some x ∧ HasD P σ₁ fuel e x.1 vs ∧ VRs ρ₁ vs ((cs.drop (i * P.cellsOf e)).take (P.cellsOf e)) := fun i vs hv => by
              have hi' : i < m := by rw [← n1]; exact (List.getElem?_eq_some_iff.1 hv).1
              have hlt : i < xs.length := by omega
              obtain ⟨k1, k2⟩ := hh i (e, (cs.drop (i * P.cellsOf e)).take (P.cellsOf e)) xs[i] vs (by rw [List.getElem?_map, List.getElem?_range hi']; rfl) (List.getElem?_eq_getElem hlt) hv
              exact ⟨xs[i], List.getElem?_eq_getElem hlt, k1, k2⟩
            have hvl : ∀ vs ∈ vss, vs.length = P.cellsOf e := fun vs hv => by
              obtain ⟨i, hi', rfl⟩ := List.getElem_of_mem hv
              obtain ⟨x, _, _, k⟩ := hpc i _ (List.getElem?_eq_getElem hi')
              have h1 := k.length
              rw [List.length_take, List.length_drop, hlen, ht] at h1
              have : (i + 1) * P.cellsOf e ≤ m * P.cellsOf e := Nat.mul_le_mul_right _ (by omega)
              rw [Nat.succ_mul] at this
              omega
            have hV : VRs ρ₁ vss.flatten cs := by
              have := VRs.flatten (ρ := ρ₁) (vss := vss) (css := (List.range m).map fun i => (cs.drop (i * P.cellsOf e)).take (P.cellsOf e)) (by simpa using n1) (fun i vs c hv hc => by
                obtain ⟨x, _, _, k⟩ := hpc i vs hv
                have hi' : i < m := by rw [← n1]; exact (List.getElem?_eq_some_iff.1 hv).1
                rw [List.getElem?_map, List.getElem?_range hi'] at hc
                cases hc
                exact k)
              rw [chunks_flatten, ← ht, ← hlen, List.take_length] at this
              exact this
            refine ⟨ρ₁, σ₁, vss.flatten, i1, r1, l1, ?_, hV⟩
            unfold HasD
            rw [hu]
            dsimp only
            intro _
            refine ⟨by simpa using n2, by rw [← hlen]; exact hV.length.symm, fun i x hx => ?_⟩
            have hi' : i < vss.length := by
              have := (List.getElem?_eq_some_iff.1 hx).1
              rw [List.length_map] at this
              omega
            rw [flatten_piece hvl (List.getElem?_eq_getElem hi')]
            obtain ⟨y, hy, k, _⟩ := hpc i vss[i] (List.getElem?_eq_getElem hi')
            rw [List.getElem?_map, hy] at hx
            cases hx
            exact k
          · exact other fun vs => by unfold HasD; rw [hu]; exact fun h' => absurd h' ht
        · cases h
      | slice e =>
        split at h <;> first | (rename_i he; cases he; done) | skip
        all_goals first
          | (rename_i he
             cases h
             exact one (v := .nilSlice) rfl (fun ρ => by simp only [VR]) (by unfold HasD; rw [hu]))
          | (rename_i e' a len cap he
             cases he
             exact laySlice hw ih hu h hi hr)
          | cases h
      | _ => exact other fun vs => by unfold HasD; rw [hu]; trivial
end
section
variable {P : Program} {G : Cx} {ev : Operand → Option AV} {σ : AHeap}
def Ext (σ σ' : AHeap) : Prop := σ.next ≤ σ'.next ∧ ∀ (b : Nat) (o : AObj), b < σ.next → σ.m.get b = some o → σ'.m.get b = some o
theorem Ext.refl (σ : AHeap) : Ext σ σ := ⟨Nat.le_refl _, fun _ _ _ h => h⟩
theorem Ext.trans {σ σ₁ σ₂ : AHeap} (h : Ext σ σ₁) (h' : Ext σ₁ σ₂) : Ext σ σ₂ := ⟨Nat.le_trans h.1 h'.1, fun b o hb ho => h'.2 b o (Nat.lt_of_lt_of_le hb h.1) (h.2 b o hb ho)⟩
theorem get_alloc_new (σ : AHeap) (o : AObj) : (σ.alloc o).m.get σ.next = some o := PT.get_put_same _ _ _
theorem get_alloc_old (σ : AHeap) (o : AObj) {b : Nat} (h : b < σ.next) : (σ.alloc o).m.get b = σ.m.get b := PT.get_put_other _ _ _ _ (Nat.ne_of_lt h)
theorem get_set_same (σ : AHeap) (b : Nat) (o : AObj) : (σ.setObj b o).m.get b = some o := PT.get_put_same _ _ _
theorem get_set_other (σ : AHeap) {b b' : Nat} (o : AObj) (h : b' ≠ b) : (σ.setObj b o).m.get b' = σ.m.get b' := PT.get_put_other _ _ _ _ h
theorem Ext.alloc (σ : AHeap) (o : AObj) : Ext σ (σ.alloc o) := ⟨Nat.le_succ _, fun b o' hb h => by rw [get_alloc_old σ o hb]; exact h⟩
theorem Ext.set {σ σ₁ : AHeap} (h : Ext σ σ₁) {b : Nat} (hb : σ.next ≤ b) (o : AObj) : Ext σ (σ₁.setObj b o) := ⟨h.1, fun c o' hc ho => by rw [get_set_other σ₁ o (Nat.ne_of_lt (Nat.lt_of_lt_of_le hc hb))]; exact h.2 c o' hc ho⟩
theorem x_move {x : Operand} {v : AV} (h : ev x = some v) : opX P G ev σ (.move x) = .val v σ := by
  show (match ev x with | some v => HR.val v σ | none => _) = _
  rw [h]
theorem x_assign {x : Operand} {v : AV} (h : ev x = some v) : opX P G ev σ (.assign x) = .val v σ := by
  show (match ev x with | some v => HR.val v σ | none => _) = _
  rw [h]
theorem x_pure {op : Op} {v : AV} (hk : kindOf P op = .pure) (h : pureA P ev op = some v) : opX P G ev σ op = .val v σ := by
  unfold opX; simp_all
theorem x_read {op : Op} {v : AV} (hk : kindOf P op = .read) (h : readA P ev σ op = some v) : opX P G ev σ op = .val v σ := by
  unfold opX; simp_all
theorem x_alloc {op : Op} {ob : AObj} {mk : Mk} (hk : kindOf P op = .alloc) (h : allocA P ev op = some (ob, mk)) : opX P G ev σ op = .val (mk.of σ.next) (σ.alloc ob) := by
  unfold opX; simp_all
theorem x_heavy {op : Op} {r : HR} (hk : kindOf P op = .heavy) (h : heavyA P G.ov ev σ op = r) : opX P G ev σ op = r := by
  unfold opX; rw [hk]; exact h
theorem x_load1 {t : TypeId} {x : Operand} {b : Pos} {off : Nat} {cells : List AV} {e : Nat} {ro : Bool} {v : AV} (hx : ev x = some (.ptr b off)) (hb : σ.m.get b = some (.row cells e ro)) (ha : aggOf P t = some none) (hv : nth cells off = some v) : opX P G ev σ (.load t x) = .val v σ := by
  refine x_read rfl ?_
  simp only [readA, hx, hb, ha, hv]
theorem x_loadN {t : TypeId} {x : Operand} {b : Pos} {off n : Nat} {cells : List AV} {e : Nat} {ro : Bool} {vs : List AV} (hx : ev x = some (.ptr b off)) (hb : σ.m.get b = some (.row cells e ro)) (ha : aggOf P t = some (some n)) (hl : off + n ≤ cells.length) (hv : (cells.drop off).take n = vs) : opX P G ev σ (.load t x) = .val (.agg vs) σ := by
  refine x_read rfl ?_
  have hl' : Nat.ble (off + n) (lenN cells) = true := by rw [Nat.ble_eq, lenN_eq]; exact hl
  simp only [readA, hx, hb, ha, hl', cond_true, takeN_eq, dropN_eq, hv]
theorem x_field {s : TypeId} {x : Operand} {i : Nat} {b : Pos} {off k : Nat} (hx : ev x = some (.ptr b off)) (hk : faOff P s i = some k) : opX P G ev σ (.fieldAddr s x i) = .val (.ptr b (off + k)) σ := by
  refine x_pure rfl ?_
  unfold faOff at hk
  simp only [pureA, hx]
  cases hs : structOf P s with
  | none => simp_all
  | some fs =>
    rw [hs] at hk
    dsimp only at hk ⊢
    cases hf : fs[i]? with
    | none => simp_all
    | some f =>
      rw [hf] at hk
      dsimp only at hk ⊢
      rw [infoF_eq] at hk
      grind
theorem x_index {t e : TypeId} {j : TypeInfo} {x i : Operand} {b : Pos} {off len n : Nat} {c : Cap} {k : IntKind} (ht : P.underlying t = some (.slice e)) (hj : P.info? e = some j) (hx : ev x = some (.slice b off len c)) (hi : ev i = some (.int k (.ofNat n))) (hn : n < len) : opX P G ev σ (.indexAddr t x i) = .val (.ptr b (off + n * j.size)) σ := by
  refine x_pure rfl ?_
  have : Nat.ble (Nat.succ n) len = true := by rw [Nat.ble_eq]; exact hn
  simp only [pureA, ht, hx, hi, hj, this, cond_true]
theorem x_len {c : Call} {t e : TypeId} {x : Operand} {b : Pos} {off len : Nat} {cp : Cap} (hc : c.callee = .builtin .len) (ht : c.argTypes[0]? = some t) (ha : c.args.toList = [x]) (hu : P.underlying t = some (.slice e)) (hx : ev x = some (.slice b off len cp)) : opX P G ev σ (.call c) = .val (.int .i64 (.ofNat len)) σ := by
  refine x_pure (by simp [kindOf, hc, isMap, ht, hu]) ?_
  simp only [pureA, hc, ht, ha, hx, lenA, hu, Option.map_some]
theorem x_lenNil {c : Call} {t e : TypeId} {x : Operand} (hc : c.callee = .builtin .len) (ht : c.argTypes[0]? = some t) (ha : c.args.toList = [x]) (hu : P.underlying t = some (.slice e)) (hx : ev x = some .nilSlice) : opX P G ev σ (.call c) = .val (.int .i64 (.ofNat 0)) σ := by
  refine x_pure (by simp [kindOf, hc, isMap, ht, hu]) ?_
  simp only [pureA, hc, ht, ha, hx, lenA, hu, Option.map_some]
theorem x_bin {o : BinOp} {t r : TypeId} {x y : Operand} {a b v : AV} (hx : ev x = some a) (hy : ev y = some b) (h : binN P (isK x || isK y) o t a b = some v) : opX P G ev σ (.binOp o t x y r) = .val v σ := by
  refine x_pure rfl ?_
  simp only [pureA, hx, hy, h]
theorem x_pick {c a b : Operand} {q : Bool} {v : AV} (hc : ev c = some (.bool q)) (h : (if q then ev a else ev b) = some v) : opX P G ev σ (.pick c a b) = .val v σ := by
  refine x_pure rfl ?_
  cases q with
  | true => simp only [pureA, hc]; exact h
  | false => simp only [pureA, hc]; exact h
theorem x_not {t : TypeId} {x : Operand} {q : Bool} (hx : ev x = some (.bool q)) : opX P G ev σ (.unOp .not t x) = .val (.bool (!q)) σ := by
  refine x_pure rfl ?_
  simp only [pureA, hx]
  cases q <;> rfl
theorem x_box {e : TypeId} {x : Operand} {v : AV} {cs : List AV} (hx : ev x = some v) (hc : cellsA v = some cs) : opX P G ev σ (.box e x) = .val (.ptr σ.next 0) (σ.alloc (.row cs e false)) := by
  exact x_alloc (op := .box e x) (mk := .ptr) (ob := .row cs e false) rfl (by simp only [allocA, hx, Option.bind_some, hc])
theorem x_new {e : TypeId} {cs : List AV} (hz : (zeroA P e).bind cellsA = some cs) (hs : selfPtr P e = false) : opX P G ev σ (.alloc e) = .val (.ptr σ.next 0) (σ.alloc (.row cs e false)) := by
  exact x_alloc (op := .alloc e) (mk := .ptr) (ob := .row cs e false) rfl (by simp only [allocA, hz, hs, cond_false])
theorem x_store {t : TypeId} {x y : Operand} {b : Pos} {off : Nat} {v : AV} {cs cells : List AV} {e : Nat} {j : TypeInfo} (hx : ev x = some (.ptr b off)) (hy : ev y = some v) (hc : cellsA v = some cs) (hb : σ.m.get b = some (.row cells e false)) (hj : P.info? t = some j) (hl : cs.length = j.size) (hle : off + j.size ≤ cells.length) (hleaf : allLeaf cs = true) :
    opX P G ev σ (.store t x y) = .skip (σ.setObj b (.row (splice cs cells off) e false)) := by
  refine x_heavy rfl ?_
  have h1 : (Nat.beq (lenN cs) j.size && Nat.ble (off + j.size) (lenN cells) && allLeaf cs) = true := by
    rw [Bool.and_eq_true, Bool.and_eq_true, Nat.beq_eq, Nat.ble_eq, lenN_eq, lenN_eq]
    simp_all
  simp only [heavyA, hx, hy, storeA, hc, hb, hj, h1, cond_true]
theorem x_call {c : Call} {f : Operand} {g : Nat} {fi ca args : List AV} (hc : c.callee = .value f) (hf : ev f = some (.func g fi ca)) (ha : evs ev c.args.toList = some args) (hg : isGo P g = true) : opX P G ev σ (.call c) = .enter g (fi ++ (args ++ ca)) σ := by
  refine x_heavy (by simp [kindOf, hc]) ?_
  simp only [heavyA, hc, hf, ha, callA, hg, cond_true, appN_eq]
end
end Go.Ev
namespace Go.Ev
theorem upd_sel {α : Type} (n : Nat) (t : V16 α) (hn : n < 16) : (updC n).run t ((selC n).run t) = t := by
  rcases lt16 hn with rfl | rfl | rfl | rfl | rfl | rfl | rfl | rfl | rfl | rfl | rfl | rfl | rfl | rfl | rfl | rfl <;> rfl
theorem put2_get {α : Type} (t : V256 α) (k : Nat) (hk : k < 256) : put2 t k (get2 t k) = t := by
  unfold put2 get2
  rw [upd_sel (Nat.mod k 16) _ (Nat.mod_lt _ (by decide))]
  exact upd_sel (Nat.div k 16) _ (by show k / 16 < 16; omega)
theorem PT.put_get {α : Type} {t : PT α} {k : Nat} {o : Option α} (h : t.get k = o) (hk : k < 256) : t.put o k = t := by
  subst h
  rw [PT.get_s _ hk]
  cases t with
  | mk s m l => rw [PT.put_s _ _ _ _ hk]; exact congrArg (fun s => PT.mk s m l) (put2_get s k hk)
def puts : PT AV → List (Nat × AV) → PT AV
  | t, [] => t
  | t, (k, v) :: l => puts (t.put (some v) k) l
def Gets (t : PT AV) : List (Nat × AV) → Prop
  | [] => True
  | (k, v) :: l => t.get k = some v ∧ Gets t l
theorem Gets.puts {t : PT AV} : ∀ {l : List (Nat × AV)}, Gets t l → (l.all fun x => Nat.blt x.1 256) = true → puts t l = t
  | [], _, _ => rfl
  | (k, v) :: l, h, hl => by
    rw [List.all_cons, Bool.and_eq_true] at hl
    have hk : k < 256 := by have := hl.1; exact Nat.le_of_ble_eq_true this
    show Go.Ev.puts (t.put (some v) k) l = t
    rw [PT.put_get h.1 hk]
    exact h.2.puts hl.2
section
variable [Env] {P : Program} {G : Cx} {ev : Operand → Option AV} {σ : AHeap}
theorem blockQ_exit {id : Nat} {Q : Ex → PT AV → AHeap → Prop} {t : PT AV} (h : Q .normal t σ) : blockQ id Q (.exit id) t σ := by
  show (if id = id then _ else _)
  simp_all
theorem thenQ_exit {n i : Nat} {b : Code} {Q : Ex → PT AV → AHeap → Prop} {t : PT AV} (h : Q (.exit i) t σ) : thenQ P G n b Q (.exit i) t σ := h
theorem thenQ_ret {n : Nat} {b : Code} {Q : Ex → PT AV → AHeap → Prop} {t : PT AV} (h : Q .ret t σ) : thenQ P G n b Q .ret t σ := h
theorem x_idx {t e : TypeId} {m : Nat} {x i : Operand} {b : Pos} {off len n : Nat} {c : Cap} {k : IntKind} (ht : P.underlying t = some (.slice e)) (hj : (P.info? e).map (·.size) = some m) (hx : ev x = some (.slice b off len c)) (hi : ev i = some (.int k (.ofNat n))) (hn : n < len) : opX P G ev σ (.indexAddr t x i) = .val (.ptr b (off + n * m)) σ := by
  cases hq : P.info? e with
  | none => simp_all
  | some j =>
    rw [hq] at hj
    cases hj
    exact x_index ht hq hx hi hn
theorem x_storeS {t : TypeId} {m : Nat} {x y : Operand} {b : Pos} {off : Nat} {v : AV} {cs cells : List AV} {e : Nat} (hx : ev x = some (.ptr b off)) (hy : ev y = some v) (hc : cellsA v = some cs) (hb : σ.m.get b = some (.row cells e false)) (hj : (P.info? t).map (·.size) = some m) (hl : cs.length = m) (hle : off + m ≤ cells.length) (hleaf : allLeaf cs = true) :
    opX P G ev σ (.store t x y) = .skip (σ.setObj b (.row (splice cs cells off) e false)) := by
  cases hq : P.info? t with
  | none => simp_all
  | some j =>
    grind [x_store]
end
end Go.Ev
namespace Go.Ev
variable [Env]
abbrev KP := Nat → AObj → Prop
def KP.le (K K' : KP) : Prop := ∀ b o, K b o → K' b o
theorem KP.le_refl (K : KP) : KP.le K K := fun _ _ h => h
theorem KP.le_trans {K K' K'' : KP} (h : KP.le K K') (h' : KP.le K' K'') : KP.le K K'' := fun b o hb => h' b o (h b o hb)
def KP.add (K : KP) (b : Nat) (o : AObj) : KP := fun b' o' => K b' o' ∨ (b' = b ∧ o' = o)
theorem KP.le_add (K : KP) (b : Nat) (o : AObj) : KP.le K (K.add b o) := fun _ _ h => .inl h
abbrev Own := List (Nat × AObj)
structure St (σ : AHeap) (K : KP) (L : Own) : Prop where
  kept : ∀ b o, K b o → b < σ.next ∧ σ.m.get b = some o ∧ ∀ e ∈ L, e.1 ≠ b
  own : ∀ e ∈ L, e.1 < σ.next ∧ σ.m.get e.1 = some e.2
  ne : L.Pairwise fun a b => a.1 ≠ b.1
section
variable {σ : AHeap} {K : KP} {L : Own}
theorem St.getK (h : St σ K L) {b : Nat} {o : AObj} (hk : K b o) : σ.m.get b = some o := (h.kept b o hk).2.1
theorem St.get (h : St σ K L) (k : Nat) {b : Nat} {o : AObj} (hk : L[k]? = some (b, o)) : σ.m.get b = some o := (h.own _ (List.mem_of_getElem? hk)).2
theorem St.alloc (h : St σ K L) (o : AObj) : St (σ.alloc o) K ((σ.next, o) :: L) where
  kept b o' hb := by
    obtain ⟨h1, h2, h3⟩ := h.kept b o' hb
    refine ⟨Nat.lt_succ_of_lt h1, by rw [get_alloc_old σ o h1]; exact h2, fun e he => ?_⟩
    grind
  own e he := by
    rcases List.mem_cons.1 he with rfl | he
    · exact ⟨Nat.lt_succ_self _, get_alloc_new _ _⟩
    · obtain ⟨h1, h2⟩ := h.own e he
      exact ⟨Nat.lt_succ_of_lt h1, by rw [get_alloc_old σ o h1]; exact h2⟩
  ne := List.pairwise_cons.2 ⟨fun e he => fun hh => by have := (h.own e he).1; omega, h.ne⟩
theorem St.pop {e : Nat × AObj} (h : St σ K (e :: L)) : St σ K L where
  kept b o hb := let ⟨h1, h2, h3⟩ := h.kept b o hb; ⟨h1, h2, fun e he => h3 e (List.mem_cons_of_mem _ he)⟩
  own e he := h.own e (List.mem_cons_of_mem _ he)
  ne := (List.pairwise_cons.1 h.ne).2
theorem St.pops : ∀ {M : Own}, St σ K (M ++ L) → St σ K L
  | [], h => h
  | _ :: _, h => St.pops h.pop
theorem St.perm {L' : Own} (h : St σ K L) (hp : L.Perm L') : St σ K L' where
  kept b o hb := let ⟨h1, h2, h3⟩ := h.kept b o hb; ⟨h1, h2, fun e he => h3 e (hp.mem_iff.2 he)⟩
  own e he := h.own e (hp.mem_iff.2 he)
  ne := (hp.pairwise_iff (fun {a b} hab => fun e => hab e.symm)).1 h.ne
theorem St.keep {b : Nat} {o : AObj} (h : St σ K ((b, o) :: L)) : St σ (K.add b o) L where
  kept b' o' hb := by
    rcases hb with hb | ⟨rfl, rfl⟩
    · exact h.pop.kept b' o' hb
    · exact ⟨(h.own _ (List.mem_cons_self ..)).1, (h.own _ (List.mem_cons_self ..)).2, fun e he hh => (List.pairwise_cons.1 h.ne).1 e he hh.symm⟩
  own := h.pop.own
  ne := h.pop.ne
theorem St.set0 {b : Nat} {o : AObj} (h : St σ K ((b, o) :: L)) (o' : AObj) : St (σ.setObj b o') K ((b, o') :: L) where
  kept b' o'' hb := by
    obtain ⟨h1, h2, h3⟩ := h.kept b' o'' hb
    refine ⟨h1, by grind [get_set_other, List.mem_cons_self], fun e he => ?_⟩
    rcases List.mem_cons.1 he with rfl | he
    · simp_all
    grind
  own e he := by
    rcases List.mem_cons.1 he with rfl | he
    · exact ⟨(h.own _ (List.mem_cons_self ..)).1, get_set_same _ _ _⟩
    · obtain ⟨h1, h2⟩ := h.own e (List.mem_cons_of_mem _ he)
      exact ⟨h1, by rw [get_set_other σ o' (fun hh => (List.pairwise_cons.1 h.ne).1 e he hh.symm)]; exact h2⟩
  ne := List.pairwise_cons.2 ⟨(List.pairwise_cons.1 h.ne).1, (List.pairwise_cons.1 h.ne).2⟩
theorem St.regrow {b : Nat} {o : AObj} (h : St σ K ((b, o) :: L)) (o' : AObj) : St ((σ.drop b).alloc o') K ((σ.next, o') :: L) := by
  refine St.alloc (σ := σ.drop b) ⟨fun b' o'' hb => ?_, fun e he => ?_, h.pop.ne⟩ o'
  · obtain ⟨h1, h2, h3⟩ := h.kept b' o'' hb
    exact ⟨h1, by rw [show (σ.drop b).m.get b' = σ.m.get b' from PT.get_put_other _ _ _ _ (fun e => h3 _ (List.mem_cons_self ..) e.symm)]; exact h2, fun e he => h3 e (List.mem_cons_of_mem _ he)⟩
  · obtain ⟨h1, h2⟩ := h.own e (List.mem_cons_of_mem _ he)
    exact ⟨h1, by rw [show (σ.drop b).m.get e.1 = σ.m.get e.1 from PT.get_put_other _ _ _ _ (fun hh => (List.pairwise_cons.1 h.ne).1 e he hh.symm)]; exact h2⟩
theorem St.named (h : St σ K L) : ∃ L', St σ K L' ∧ L = L' := ⟨L, h, rfl⟩
theorem St.ext {σ' : AHeap} (h : St σ K L) (he : Ext σ σ') : St σ' K L where
  kept b o hb := let ⟨h1, h2, h3⟩ := h.kept b o hb; ⟨Nat.lt_of_lt_of_le h1 he.1, he.2 b o h1 h2, h3⟩
  own e hm := let ⟨h1, h2⟩ := h.own e hm; ⟨Nat.lt_of_lt_of_le h1 he.1, he.2 _ _ h1 h2⟩
  ne := h.ne
end
def PtsTo (K : KP) (p : AV) (vs : List AV) : Prop :=
  ∃ (b off : Nat) (cells : List AV) (e : Nat) (ro : Bool), p = .ptr b off ∧ K b (.row cells e ro) ∧ off + vs.length ≤ cells.length ∧ (cells.drop off).take vs.length = vs
theorem PtsTo.mono {K K' : KP} (hk : KP.le K K') {p : AV} {vs : List AV} (h : PtsTo K p vs) : PtsTo K' p vs :=
  let ⟨b, off, cells, e, ro, h1, h2, h3, h4⟩ := h; ⟨b, off, cells, e, ro, h1, hk _ _ h2, h3, h4⟩
def CapOK (m len : Nat) (c : Cap) : Prop := c = .upto m ∨ ∃ n, c = .known n ∧ len ≤ n
def HasS {α : Type} (K : KP) (m : Nat) (R : α → List AV → Prop) (l : List α) (v : AV) : Prop :=
  (l = [] ∧ v = .nilSlice) ∨ ∃ (b off : Nat) (c : Cap) (cells : List AV) (e : Nat) (ro : Bool), v = .slice b off l.length c ∧ CapOK m l.length c ∧ K b (.row cells e ro) ∧ off + l.length * m ≤ cells.length ∧ l.length ≤ 9223372036854775807 ∧
    ∀ (i : Nat) (x : α), l[i]? = some x → R x ((cells.drop (off + i * m)).take m)
theorem HasS.mono {α : Type} {K K' : KP} {m : Nat} {R R' : α → List AV → Prop} {l : List α} {v : AV} (h : HasS K m R l v) (hk : KP.le K K') (hR : ∀ x vs, R x vs → R' x vs) : HasS K' m R' l v := by
  rcases h with h | ⟨b, off, c, cells, e, ro, h1, h2, h3, h4, h5⟩
  · exact .inl h
  · exact .inr ⟨b, off, c, cells, e, ro, h1, h2, hk _ _ h3, h4, h5.1, fun i x hx => hR x _ (h5.2 i x hx)⟩
theorem HasS.len_le {α : Type} {K : KP} {m : Nat} {R : α → List AV → Prop} {l : List α} {v : AV} (h : HasS K m R l v) : l.length ≤ 9223372036854775807 := by
  rcases h with ⟨rfl, _⟩ | ⟨b, off, c, cells, e, ro, h1, h2, h3, h4, h5, _⟩
  · exact Nat.zero_le _
  · exact h5
theorem HasS.leaf {α : Type} {K : KP} {m : Nat} {R : α → List AV → Prop} {l : List α} {v : AV} (h : HasS K m R l v) : cellsA v = some [v] ∧ leafB v = true := by
  rcases h with ⟨_, rfl⟩ | ⟨b, off, c, cells, e, ro, rfl, _⟩ <;> exact ⟨rfl, rfl⟩
theorem HasS.lenA {α : Type} {K : KP} {m : Nat} {R : α → List AV → Prop} {l : List α} {v : AV} (h : HasS K m R l v) {P : Program} {t e : TypeId} (hu : P.underlying t = some (.slice e)) : Go.Ev.lenA P t v = some l.length := by
  rcases h with ⟨rfl, rfl⟩ | ⟨b, off, c, cells, e, ro, rfl, _⟩
  · simp only [Go.Ev.lenA, hu]; rfl
  · simp only [Go.Ev.lenA, hu]
theorem HasS.at {α : Type} {K : KP} {m : Nat} {R : α → List AV → Prop} {l : List α} {v : AV} (h : HasS K m R l v) {i : Nat} {x : α} (hi : l[i]? = some x) :
    ∃ (b off : Nat) (c : Cap) (vs : List AV), v = .slice b off l.length c ∧ i < l.length ∧ PtsTo K (.ptr b (off + i * m)) vs ∧ vs.length = m ∧ R x vs := by
  have hlt : i < l.length := (List.getElem?_eq_some_iff.1 hi).1
  rcases h with ⟨rfl, _⟩ | ⟨b, off, c, cells, e, ro, rfl, h2, h3, h4, h5⟩
  · simp_all
  · have hle : (i + 1) * m ≤ l.length * m := Nat.mul_le_mul_right _ hlt
    rw [Nat.succ_mul] at hle
    have hn : ((cells.drop (off + i * m)).take m).length = m := by grind
    refine ⟨b, off, c, _, rfl, hlt, ⟨b, off + i * m, cells, e, ro, rfl, h3, by rw [hn]; omega, by rw [hn]⟩, hn, h5.2 i x hi⟩
section
variable {P : Program} {G : Cx} {ev : Operand → Option AV} {σ : AHeap} {K : KP} {L : Own}
theorem x_len' {α : Type} {m : Nat} {R : α → List AV → Prop} {l : List α} {c : Call} {t e : TypeId} {x : Operand} {v : AV} (hs : HasS K m R l v) (hc : c.callee = .builtin .len) (ht : c.argTypes[0]? = some t) (ha : c.args.toList = [x]) (hu : P.underlying t = some (.slice e)) (hx : ev x = some v) : opX P G ev σ (.call c) = .val (.int .i64 (.ofNat l.length)) σ := by
  refine x_pure (by simp [kindOf, hc, isMap, ht, hu]) ?_
  simp only [pureA, hc, ht, ha, hx, hs.lenA hu, Option.map_some]
theorem x_pload1 {t : TypeId} {x : Operand} {p v : AV} {vs : List AV} (hs : St σ K L) (hp : PtsTo K p vs) (hx : ev x = some p) (ha : aggOf P t = some none) (hv : vs[0]? = some v) : opX P G ev σ (.load t x) = .val v σ := by
  obtain ⟨b, off, cells, e, ro, rfl, h2, h3, h4⟩ := hp
  refine x_load1 hx (hs.getK h2) ha ?_
  grind [nth_eq]
theorem x_ploadN {t : TypeId} {x : Operand} {p : AV} {vs : List AV} {n : Nat} (hs : St σ K L) (hp : PtsTo K p vs) (hx : ev x = some p) (ha : aggOf P t = some (some n)) (hv : n ≤ vs.length) : opX P G ev σ (.load t x) = .val (.agg (vs.take n)) σ := by
  obtain ⟨b, off, cells, e, ro, rfl, h2, h3, h4⟩ := hp
  refine x_loadN hx (hs.getK h2) ha (by omega) ?_
  grind
end
section
variable {P : Program} {G : Cx} {n : Nat} {t : PT AV} {σ : AHeap} {K : KP} {L : Own} {Q : Ex → PT AV → AHeap → Prop} {ops : Array Oper} {o : Oper} {l : List Oper}
theorem o_split {c : Bool} {t' : Bool → PT AV} (hw : wantedA ops t o = some true) (hv : opX P G (evalT G t) σ o.op = .val (.bool c) σ) (hp : ∀ b, putT t n o.dst (.bool b) = some (t' b))
    (h1 : c = true → EvOps P G ops n l (t' true) σ Q) (h0 : c = false → EvOps P G ops n l (t' false) σ Q) : EvOps P G ops n (o :: l) t σ Q := by
  refine evOps_val hw hv (hp c) ?_
  cases c with
  | true => exact h1 rfl
  | false => exact h0 rfl
theorem o_ptr (hs : St σ K L) {ob : AObj} {t' : Nat → PT AV} (hw : wantedA ops t o = some true) (hv : opX P G (evalT G t) σ o.op = .val (.ptr σ.next 0) (σ.alloc ob)) (hp : ∀ b, putT t n o.dst (.ptr b 0) = some (t' b))
    (h : ∀ (σ' : AHeap) (b : Nat), St σ' K ((b, ob) :: L) → EvOps P G ops n l (t' b) σ' Q) : EvOps P G ops n (o :: l) t σ Q :=
  evOps_val hw hv (hp _) (h _ _ (hs.alloc ob))
theorem o_mk (hs : St σ K L) {ob : AObj} {k c : Nat} {t' : Nat → PT AV} (hw : wantedA ops t o = some true) (hv : opX P G (evalT G t) σ o.op = .val (.slice σ.next 0 k (.known c)) (σ.alloc ob)) (hp : ∀ b, putT t n o.dst (.slice b 0 k (.known c)) = some (t' b))
    (h : ∀ (σ' : AHeap) (b : Nat), St σ' K ((b, ob) :: L) → EvOps P G ops n l (t' b) σ' Q) : EvOps P G ops n (o :: l) t σ Q :=
  evOps_val hw hv (hp _) (h _ _ (hs.alloc ob))
theorem o_set0 {b : Nat} {ob ob' : AObj} {t' : PT AV} (hs : St σ K ((b, ob) :: L)) (hw : wantedA ops t o = some true) (hv : opX P G (evalT G t) σ o.op = .skip (σ.setObj b ob')) (hp : putT t n o.dst unit = some t')
    (h : ∀ σ', St σ' K ((b, ob') :: L) → EvOps P G ops n l t' σ' Q) : EvOps P G ops n (o :: l) t σ Q := evOps_skip hw hv hp (h _ (hs.set0 ob'))
theorem o_idx {α : Type} {m : Nat} {R : α → List AV → Prop} {la : List α} {v : AV} {i : Nat} {x : α} {ty e : TypeId} {xo io : Operand} {k : IntKind} {t' : AV → PT AV} (hs : HasS K m R la v) (hi : la[i]? = some x) (hw : wantedA ops t o = some true) (ho : o.op = .indexAddr ty xo io)
    (ht : P.underlying ty = some (.slice e)) (hj : (P.info? e).map (·.size) = some m) (hx : evalT G t xo = some v) (hio : evalT G t io = some (.int k (.ofNat i))) (hp : ∀ p, putT t n o.dst p = some (t' p))
    (h : ∀ p vs, PtsTo K p vs → vs.length = m → R x vs → EvOps P G ops n l (t' p) σ Q) : EvOps P G ops n (o :: l) t σ Q := by
  obtain ⟨b, off, c, vs, rfl, hlt, h1, h2, h3⟩ := hs.at hi
  refine evOps_val hw ?_ (hp _) (h _ vs h1 h2 h3)
  rw [ho]
  exact x_idx ht hj hx hio hlt
theorem o_pfield {p : AV} {vs : List AV} {s : TypeId} {xo : Operand} {i k : Nat} {t' : AV → PT AV} (hpt : PtsTo K p vs) (hw : wantedA ops t o = some true) (ho : o.op = .fieldAddr s xo i) (hx : evalT G t xo = some p) (hk : faOff P s i = some k) (hl : k ≤ vs.length) (hp : ∀ p, putT t n o.dst p = some (t' p))
    (h : ∀ p', PtsTo K p' (vs.drop k) → EvOps P G ops n l (t' p') σ Q) : EvOps P G ops n (o :: l) t σ Q := by
  obtain ⟨b, off, cells, e, ro, rfl, h2, h3, h4⟩ := hpt
  refine evOps_val hw ?_ (hp _) (h _ ⟨b, off + k, cells, e, ro, rfl, h2, by grind, ?_⟩)
  · rw [ho]
    exact x_field hx hk
  grind [List.drop_take, List.drop_drop]
theorem o_call {f : Nat} {args : List AV} {t' : AV → PT AV} {R : AV → AHeap → Prop} (hw : wantedA ops t o = some true) (hv : opX P G (evalT G t) σ o.op = .enter f args σ) (hp : ∀ v, putT t n o.dst v = some (t' v))
    (hc : EvCall P G f args σ R) (h : ∀ v σ', R v σ' → EvOps P G ops n l (t' v) σ' Q) : EvOps P G ops n (o :: l) t σ Q :=
  evOps_call hw hv (hc.mono fun v σ' hr => ⟨_, hp v, h v σ' hr⟩)
theorem ev_cond2 {x : Operand} {a b : Code} {c : Bool} (hc : evalT G t x = some (.bool c)) (h1 : c = true → Ev P G a n t σ Q) (h0 : c = false → Ev P G b n t σ Q) : Ev P G (.cond x a b) n t σ Q := by
  refine ev_cond hc ?_
  grind
end
theorem allLeaf_nil : allLeaf [] = true := rfl
theorem allLeaf_cons {v : AV} {vs : List AV} (h : leafB v = true) (hs : allLeaf vs = true) : allLeaf (v :: vs) = true := by
  grind [allLeaf]
section
variable {P : Program} {G : Cx} {ev : Operand → Option AV} {σ : AHeap} {K : KP} {L : Own}
theorem x_storeC {t : TypeId} {m : Nat} {x y : Operand} {b : Pos} {off : Nat} {v : AV} {cs cells cells' : List AV} {e : Nat} (hx : ev x = some (.ptr b off)) (hy : ev y = some v) (hc : cellsA v = some cs) (hb : σ.m.get b = some (.row cells e false)) (hj : (P.info? t).map (·.size) = some m) (hl : cs.length = m) (hle : off + m ≤ cells.length) (hleaf : allLeaf cs = true) (hs : splice cs cells off = cells') :
    opX P G ev σ (.store t x y) = .skip (σ.setObj b (.row cells' e false)) := by
  subst hs
  exact x_storeS hx hy hc hb hj hl hle hleaf
theorem x_ploadW {t : TypeId} {x : Operand} {p : AV} {vs : List AV} {n : Nat} (hs : St σ K L) (hp : PtsTo K p vs) (hx : ev x = some p) (ha : aggOf P t = some (some n)) (hv : vs.length = n) : opX P G ev σ (.load t x) = .val (.agg vs) σ := by
  grind [x_ploadN, List.take_length]
def fvOff (P : Program) (s : TypeId) (i : Nat) : Option (Nat × Option (Option Nat)) := (structOf P s).bind fun fs => (fs[i]?).map fun f => (f.offset, aggOf P f.type)
theorem x_fieldN {s : TypeId} {x : Operand} {i k n : Nat} {cs vs : List AV} (hx : ev x = some (.agg cs)) (hk : fvOff P s i = some (k, some (some n))) (hv : takeN (dropN cs k) n = vs) : opX P G ev σ (.field s x i) = .val (.agg vs) σ := by
  refine x_pure rfl ?_
  unfold fvOff at hk
  simp only [pureA, hx]
  cases hs : structOf P s with
  | none => simp_all
  | some fs =>
    rw [hs] at hk
    simp only [Option.bind_some, Option.map_eq_some_iff, Prod.mk.injEq] at hk
    obtain ⟨f, hf, rfl, ha⟩ := hk
    dsimp only
    rw [hf]
    simp only [partA, ha, hv]
def placesOf (P : Program) (t : TypeId) : Option (List (Nat × Nat)) := (structOf P t).bind fun fs => allSome (fun f : Field => (P.info? f.type).map fun j => (f.offset, j.size)) fs.toList
theorem fillA_nil {place : Nat → Option (Nat × Nat)} {cells : List AV} : fillA place ev [] cells = some cells := rfl
theorem fillA_cons {place : Nat → Option (Nat × Nat)} {i : Nat} {x : Operand} {l : List (Nat × Operand)} {cells : List AV} {off size : Nat} {v : AV} {vs : List AV} {r : Option (List AV)} (hp : place i = some (off, size)) (hx : ev x = some v) (hc : cellsA v = some vs) (hl : (Nat.beq (lenN vs) size && Nat.ble (off + size) (lenN cells)) = true) (h : fillA place ev l (splice vs cells off) = r) : fillA place ev ((i, x) :: l) cells = r := by
  grind [fillA]
theorem x_build {t : TypeId} {parts : Array (Nat × Operand)} {places : List (Nat × Nat)} {zero cs : List AV} (hp : placesOf P t = some places) (hz : (zeroA P t).bind cellsA = some zero) (hu : aggOf P t = some (some zero.length)) (hf : fillA (nth places) ev parts.toList zero = some cs) (hs : (structOf P t).isSome = true) : opX P G ev σ (.build t parts) = .val (.agg cs) σ := by
  refine x_pure rfl ?_
  unfold placesOf structOf at hp
  unfold structOf at hs
  rw [underF_eq] at hp hs
  simp only [pureA, hz]
  grind
end
section
variable {P : Program} {G : Cx} {n : Nat} {t : PT AV} {σ : AHeap} {K : KP} {L : Own} {Q : Ex → PT AV → AHeap → Prop} {ops : Array Oper} {o : Oper} {l : List Oper}
theorem o_callV {f : Nat} {args : List AV} {u : AV} {t' : AV → PT AV} (hw : wantedA ops t o = some true) (hv : opX P G (evalT G t) σ o.op = .enter f args σ) (hp : ∀ v, putT t n o.dst v = some (t' v))
    (hc : EvCall P G f args σ fun v σ' => v = u ∧ St σ' K L) (h : ∀ σ', St σ' K L → EvOps P G ops n l (t' u) σ' Q) : EvOps P G ops n (o :: l) t σ Q :=
  o_call hw hv hp hc fun v σ' ⟨hv, hst⟩ => by simp_all
theorem ev_cond_true {x : Operand} {a b : Code} (hc : evalT G t x = some (.bool true)) (h : Ev P G a n t σ Q) : Ev P G (.cond x a b) n t σ Q := ev_cond hc h
theorem ev_cond_false {x : Operand} {a b : Code} (hc : evalT G t x = some (.bool false)) (h : Ev P G b n t σ Q) : Ev P G (.cond x a b) n t σ Q := ev_cond hc h
theorem thenQ_normal {b : Code} (h : Ev P G b n t σ Q) : thenQ P G n b Q .normal t σ := h
theorem blockQ_normal {id : Nat} (h : Q .normal t σ) : blockQ id Q .normal t σ := h
theorem blockQ_ret {id : Nat} (h : Q .ret t σ) : blockQ id Q .ret t σ := h
def loopQ (I : Nat → PT AV → AHeap → Prop) (j : Nat) (Q : Ex → PT AV → AHeap → Prop) (e : Ex) (t : PT AV) (σ : AHeap) : Prop :=
  match e with
  | .normal => ∃ i, i < j ∧ I i t σ
  | e => Q e t σ
theorem loopQ_normal {I : Nat → PT AV → AHeap → Prop} {j : Nat} (h : ∃ i, i < j ∧ I i t σ) : loopQ I j Q .normal t σ := h
theorem loopQ_exit {I : Nat → PT AV → AHeap → Prop} {j i : Nat} (h : Q (.exit i) t σ) : loopQ I j Q (.exit i) t σ := h
theorem loopQ_ret {I : Nat → PT AV → AHeap → Prop} {j : Nat} (h : Q .ret t σ) : loopQ I j Q .ret t σ := h
theorem ev_loop' {b : Code} (I : Nat → PT AV → AHeap → Prop) (j : Nat) (hI : I j t σ) (step : ∀ j t σ, I j t σ → Ev P G b n t σ (loopQ I j Q)) : Ev P G (.loop b) n t σ Q :=
  ev_loop I (fun j t σ h => (step j t σ h).mono fun e t' σ' hq => by cases e <;> exact hq) j t σ hI
end
def insN : Nat := 1000
def livB (f : Nat) : Bool := Nat.beq f 4
def srtB (f : Nat) : Bool := Nat.beq f 16
structure Plain (G : Cx) : Prop where
  h1 : ∀ f a s, srtB f = false → G.ktb f a s = none
  h2 : ∀ f a, livB f = false → G.tbl f a = none
  h3 : G.mem = []
  h4 : ∀ f a s, G.stop f a s = none
  h5 : ∀ f, Nat.beq f insN = false → G.fk f = false
theorem ev_plain {P : Program} {G : Cx} (hG : Plain G) {f : Nat} {fn : Func} {c : Code} {args : List AV} {σ : AHeap} {R : AV → AHeap → Prop} {t : PT AV} (hf : P.funcs[f]? = some fn) (hb : fn.body = some c) (ha : argsT fn.ntmps args = some t)
    (h : Ev P G c fn.ntmps t σ fun e t' σ' => (e = .normal ∨ e = .ret) ∧ ∃ v, resultsA P fn t' σ' = some v ∧ R v σ') (hk : Nat.beq f insN = false := by rfl) (hl : livB f = false := by rfl) (hs : srtB f = false := by rfl) : EvCall P G f args σ R :=
  ev_call (hG.h1 _ _ _ hs) (hG.h2 _ _ hl) (hG.h4 _ _ _) (hG.h5 _ hk) hf hb ha h
def endQ (P : Program) (fn : Func) (R : AV → AHeap → Prop) (e : Ex) (t : PT AV) (σ : AHeap) : Prop := (e = .normal ∨ e = .ret) ∧ ∃ v, resultsA P fn t σ = some v ∧ R v σ
theorem ev_body {P : Program} {G : Cx} (hG : Plain G) {f : Nat} {fn : Func} {c : Code} {args : List AV} {σ : AHeap} {R : AV → AHeap → Prop} {t : PT AV} (hf : P.funcs[f]? = some fn) (hb : fn.body = some c) (ha : argsT fn.ntmps args = some t)
    (h : Ev P G c fn.ntmps t σ (endQ P fn R)) (hk : Nat.beq f insN = false := by rfl) (hl : livB f = false := by rfl) (hs : srtB f = false := by rfl) : EvCall P G f args σ R := ev_plain hG hf hb ha h hk hl hs
theorem results_one {P : Program} {fn : Func} {k : Nat} {t : PT AV} {σ : AHeap} {v : AV} (hr : fn.results.toList = [.tmp k]) (h : t.get k = some v) : resultsA P fn t σ = some v := by
  unfold resultsA
  rw [hr]
  have : allSome (resultA P t σ) [.tmp k] = some [v] := by
    have h' : resultA P t σ (.tmp k) = some v := h
    unfold allSome
    simp only [h']
  rw [this]
theorem end_ret1 {P : Program} {fn : Func} {R : AV → AHeap → Prop} {t : PT AV} {σ : AHeap} {k : Nat} {v : AV} (hr : fn.results.toList = [.tmp k]) (h : t.get k = some v) (hR : R v σ) : endQ P fn R .ret t σ := ⟨.inr rfl, v, results_one hr h, hR⟩
end Go.Ev
namespace Go.Ev
theorem V16.eta {α : Type} (t : V16 α) : t = ⟨(selC 0).run t, (selC 1).run t, (selC 2).run t, (selC 3).run t, (selC 4).run t, (selC 5).run t, (selC 6).run t, (selC 7).run t, (selC 8).run t, (selC 9).run t, (selC 10).run t, (selC 11).run t, (selC 12).run t, (selC 13).run t, (selC 14).run t, (selC 15).run t⟩ := by cases t; rfl
theorem V16.same {α : Type} {t t' : V16 α} (h : ∀ n, n < 16 → (selC n).run t = (selC n).run t') : t = t' := by
  rw [V16.eta t, h 0 (by decide), h 1 (by decide), h 2 (by decide), h 3 (by decide), h 4 (by decide), h 5 (by decide), h 6 (by decide), h 7 (by decide), h 8 (by decide), h 9 (by decide), h 10 (by decide), h 11 (by decide), h 12 (by decide), h 13 (by decide), h 14 (by decide), h 15 (by decide), ← V16.eta t']
theorem V256.same {α : Type} {t t' : V256 α} (h : ∀ k, k < 256 → get2 t k = get2 t' k) : t = t' := by
  refine V16.same fun n hn => V16.same fun m hm => ?_
  have := h (n * 16 + m) (by omega)
  unfold get2 at this
  have e1 : Nat.div (n * 16 + m) 16 = n := by show (n * 16 + m) / 16 = n; omega
  have e2 : Nat.mod (n * 16 + m) 16 = m := by show (n * 16 + m) % 16 = m; omega
  simp_all
variable [Env]
def OffW (W : List Nat) (t t' : PT AV) : Prop := t'.m = t.m ∧ t'.l = t.l ∧ ∀ k, k < 256 → W.elem k = false → get2 t'.s k = get2 t.s k
theorem OffW.refl (W : List Nat) (t : PT AV) : OffW W t t := ⟨rfl, rfl, fun _ _ _ => rfl⟩
theorem OffW.put {W : List Nat} {t t' : PT AV} {w : Nat} {o : Option AV} (hw : (W.elem w && Nat.blt w 256) = true) (h : OffW W t t') : OffW W t (t'.put o w) := by
  obtain ⟨h1, h2, h3⟩ := h
  rw [Bool.and_eq_true, blt_iff] at hw
  obtain ⟨s, m, l⟩ := t'
  rw [PT.put_s _ _ _ _ hw.2]
  refine ⟨h1, h2, fun k hk hn => ?_⟩
  show get2 (put2 s w o) k = _
  rw [get_put2 _ _ _ _ hw.2 hk, if_neg (fun e => by simp_all)]
  exact h3 k hk hn
theorem OffW.ex1 {W : List Nat} {t t' : PT AV} {w : Nat} (hw : Nat.blt w 256 = true) (h : OffW (w :: W) t t') : ∃ o, OffW W (t.put o w) t' := by
  rw [blt_iff] at hw
  obtain ⟨h1, h2, h3⟩ := h
  refine ⟨t'.get w, ?_⟩
  obtain ⟨s, m, l⟩ := t
  rw [PT.put_s _ _ _ _ hw, PT.get_s _ hw]
  refine ⟨h1, h2, fun k hk hn => ?_⟩
  grind [get_put2]
theorem OffW.ex4 {W : List Nat} {t t' : PT AV} {a b c d : Nat} (hw : (Nat.blt a 256 && (Nat.blt b 256 && (Nat.blt c 256 && Nat.blt d 256))) = true) (h : OffW (a :: b :: c :: d :: W) t t') : ∃ o1 o2 o3 o4, OffW W ((((t.put o1 a).put o2 b).put o3 c).put o4 d) t' := by
  simp only [Bool.and_eq_true] at hw
  obtain ⟨h1, h2, h3, h4⟩ := hw
  obtain ⟨o1, h⟩ := h.ex1 h1
  obtain ⟨o2, h⟩ := h.ex1 h2
  obtain ⟨o3, h⟩ := h.ex1 h3
  obtain ⟨o4, h⟩ := h.ex1 h4
  grind
theorem OffW.ex8 {W : List Nat} {t t' : PT AV} {a b c d e f g i : Nat} (hw : (Nat.blt a 256 && (Nat.blt b 256 && (Nat.blt c 256 && Nat.blt d 256))) = true) (hw2 : (Nat.blt e 256 && (Nat.blt f 256 && (Nat.blt g 256 && Nat.blt i 256))) = true) (h : OffW (a :: b :: c :: d :: e :: f :: g :: i :: W) t t') :
    ∃ o1 o2 o3 o4 o5 o6 o7 o8, OffW W ((((((((t.put o1 a).put o2 b).put o3 c).put o4 d).put o5 e).put o6 f).put o7 g).put o8 i) t' := by
  obtain ⟨o1, o2, o3, o4, h⟩ := h.ex4 hw
  obtain ⟨o5, o6, o7, o8, h⟩ := h.ex4 hw2
  grind
theorem OffW.nil {t t' : PT AV} (h : OffW [] t t') : t' = t := by
  obtain ⟨s, m, l⟩ := t
  obtain ⟨s', m', l'⟩ := t'
  obtain ⟨h1, h2, h3⟩ := h
  have : s' = s := V256.same fun k hk => h3 k hk rfl
  simp_all
section
variable {P : Program} {G : Cx} {n : Nat} {t : PT AV} {σ : AHeap} {Q : Ex → PT AV → AHeap → Prop}
theorem ev_loopW {b : Code} (W : List Nat) (I : Nat → PT AV → AHeap → Prop) (j : Nat) (hI : I j t σ) (step : ∀ j t' σ, OffW W t t' → I j t' σ → Ev P G b n t' σ (loopQ (fun j t'' σ => OffW W t t'' ∧ I j t'' σ) j Q)) : Ev P G (.loop b) n t σ Q :=
  ev_loop' (fun j t'' σ => OffW W t t'' ∧ I j t'' σ) j ⟨OffW.refl _ _, hI⟩ fun j t' σ h => step j t' σ h.1 h.2
end
theorem ltI_nat {a b : Nat} : ltI (.ofNat a) (.ofNat b) = decide (a < b) := by
  show Nat.ble (Nat.succ a) b = _
  rw [Bool.eq_iff_iff, Nat.ble_eq, decide_eq_true_iff]; rfl
theorem eqI_nat {a b : Nat} : eqI (.ofNat a) (.ofNat b) = decide (a = b) := by
  show Nat.beq a b = _
  rw [Bool.eq_iff_iff, Nat.beq_eq, decide_eq_true_iff]
theorem wr_succ {i : Nat} (h : i < 9223372036854775807) : wr .i64 (Int.add (.ofNat i) (.ofNat 1)) = .ofNat (i + 1) := by
  show (bif Nat.ble (i + 1) 9223372036854775807 then _ else _) = _
  grind [Nat.ble_eq]
end Go.Ev
namespace Go.Ev
variable [Env]
section
variable {P : Program} {G : Cx} {n : Nat} {t : PT AV} {σ : AHeap} {K : KP} {L : Own} {Q : Ex → PT AV → AHeap → Prop} {ops : Array Oper} {o : Oper} {i : Nat} {rc : List Nat} {l : List (Nat × List Nat)}
theorem evPlan_valR {v : AV} {t' : PT AV} {σ' : AHeap} (hi : ops[i]? = some o) (hw : wantedA ops t o = some true) (hv : opX P G (evalT G t) σ o.op = .val v σ') (hp : putT t n o.dst v = some t') (h : stillAll P G ops t' σ' rc = true ∧ EvPlan P G ops n l t' σ' Q) : EvPlan P G ops n ((i, rc) :: l) t σ Q := by
  obtain ⟨hs, K, e, t2, σ2, h1, h2⟩ := h
  refine ⟨K, e, t2, σ2, fun d k hk => ?_, h2⟩
  show (match ops[i]? with
    | some o => oneX P G (runX P G k) false ops n o t σ (fun t' σ' => bif stillAll P G ops t' σ' rc then planX P G (runX P G k) ops n d l t' σ' else .err 86)
    | none => .err 87) = _
  grind [oneX, effX]
theorem evPlan_skipR {t' : PT AV} {σ' : AHeap} (hi : ops[i]? = some o) (hw : wantedA ops t o = some true) (hv : opX P G (evalT G t) σ o.op = .skip σ') (hp : putT t n o.dst unit = some t') (h : stillAll P G ops t' σ' rc = true ∧ EvPlan P G ops n l t' σ' Q) : EvPlan P G ops n ((i, rc) :: l) t σ Q := by
  obtain ⟨hs, K, e, t2, σ2, h1, h2⟩ := h
  refine ⟨K, e, t2, σ2, fun d k hk => ?_, h2⟩
  show (match ops[i]? with
    | some o => oneX P G (runX P G k) false ops n o t σ (fun t' σ' => bif stillAll P G ops t' σ' rc then planX P G (runX P G k) ops n d l t' σ' else .err 86)
    | none => .err 87) = _
  grind [oneX, effX]
theorem still_nil : stillAll P G ops t σ [] = true := rfl
theorem still_cons {j : Nat} {l : List Nat} (h : stillX P G ops t σ j = true) (hl : stillAll P G ops t σ l = true) : stillAll P G ops t σ (j :: l) = true := by
  grind [stillAll]
theorem still_read {k : Nat} {v : AV} (hi : ops[i]? = some o) (hw : wantedA ops t o = some true) (hd : o.dst = some k) (hg : t.get k = some v) (hk : kindOf P o.op = .read) (h : opX P G (evalT G t) σ o.op = .val v σ) (hb : beqA v v = true) : stillX P G ops t σ i = true := by
  have hr : readA P (evalT G t) σ o.op = some v := by
    grind [opX]
  unfold stillX
  simp_all
theorem beq1_int (k : IntKind) (n : Int) : beqA.beq1 (.int k n) (.int k n) = true := by
  show (eqK k k && eqI n n) = true
  rw [eqI_eq]; cases k <;> simp [eqK]
theorem beq1_str (s : List Nat) : beqA.beq1 (.str s) (.str s) = true := by
  show eqS s s = true
  rw [eqS_eq]; simp
theorem HasS.beq1 {α : Type} {K : KP} {m : Nat} {R : α → List AV → Prop} {l : List α} {v : AV} (h : HasS K m R l v) : beqA.beq1 v v = true := by
  rcases h with ⟨_, rfl⟩ | ⟨b, off, c, cells, e, ro, rfl, hc, _⟩
  · rfl
  · show (beqA.beqP b b && Nat.beq off off && Nat.beq l.length l.length && beqA.beqC c c) = true
    have hp : beqA.beqP b b = true := Nat.beq_refl b
    have hcc : beqA.beqC c c = true := by
      rcases hc with rfl | ⟨n, rfl, _⟩
      · exact Nat.beq_refl m
      · exact Nat.beq_refl n
    simp [hp, hcc]
theorem beqL_nil : beqA.beqL [] [] = true := rfl
theorem beqL_cons {v : AV} {vs : List AV} (h : beqA.beq1 v v = true) (hs : beqA.beqL vs vs = true) : beqA.beqL (v :: vs) (v :: vs) = true := by
  grind [beqA.beqL]
theorem beqA_agg {vs : List AV} (h : beqA.beqL vs vs = true) : beqA (.agg vs) (.agg vs) = true := h
theorem p_split {c : Bool} {t' : Bool → PT AV} (hi0 : ops[i]? = some o) (hw : wantedA ops t o = some true) (hv : opX P G (evalT G t) σ o.op = .val (.bool c) σ) (hp : ∀ b, putT t n o.dst (.bool b) = some (t' b))
    (h1 : c = true → EvPlan P G ops n l (t' true) σ Q) (h0 : c = false → EvPlan P G ops n l (t' false) σ Q) : EvPlan P G ops n ((i, []) :: l) t σ Q := by
  refine evPlan_val hi0 hw hv (hp c) ?_
  cases c with
  | true => exact h1 rfl
  | false => exact h0 rfl
theorem p_mk (hs : St σ K L) {ob : AObj} {k c : Nat} {t' : Nat → PT AV} (hi0 : ops[i]? = some o) (hw : wantedA ops t o = some true) (hv : opX P G (evalT G t) σ o.op = .val (.slice σ.next 0 k (.known c)) (σ.alloc ob)) (hp : ∀ b, putT t n o.dst (.slice b 0 k (.known c)) = some (t' b))
    (h : ∀ (σ' : AHeap) (b : Nat), St σ' K ((b, ob) :: L) → EvPlan P G ops n l (t' b) σ' Q) : EvPlan P G ops n ((i, []) :: l) t σ Q :=
  evPlan_val hi0 hw hv (hp _) (h _ _ (hs.alloc ob))
theorem p_idx {α : Type} {m : Nat} {R : α → List AV → Prop} {la : List α} {v : AV} {ix : Nat} {x : α} {ty e : TypeId} {xo io : Operand} {k : IntKind} {t' : AV → PT AV} (hs : HasS K m R la v) (hi : la[ix]? = some x) (hi0 : ops[i]? = some o) (hw : wantedA ops t o = some true) (ho : o.op = .indexAddr ty xo io)
    (ht : P.underlying ty = some (.slice e)) (hj : (P.info? e).map (·.size) = some m) (hx : evalT G t xo = some v) (hio : evalT G t io = some (.int k (.ofNat ix))) (hp : ∀ p, putT t n o.dst p = some (t' p))
    (h : ∀ p vs, PtsTo K p vs → vs.length = m → R x vs → EvPlan P G ops n l (t' p) σ Q) : EvPlan P G ops n ((i, []) :: l) t σ Q := by
  obtain ⟨b, off, c, vs, rfl, hlt, h1, h2, h3⟩ := hs.at hi
  refine evPlan_val hi0 hw ?_ (hp _) (h _ vs h1 h2 h3)
  rw [ho]
  exact x_idx ht hj hx hio hlt
theorem p_pfield {p : AV} {vs : List AV} {s : TypeId} {xo : Operand} {fi k : Nat} {t' : AV → PT AV} (hpt : PtsTo K p vs) (hi0 : ops[i]? = some o) (hw : wantedA ops t o = some true) (ho : o.op = .fieldAddr s xo fi) (hx : evalT G t xo = some p) (hk : faOff P s fi = some k) (hl : k ≤ vs.length) (hp : ∀ p, putT t n o.dst p = some (t' p))
    (h : ∀ p', PtsTo K p' (vs.drop k) → EvPlan P G ops n l (t' p') σ Q) : EvPlan P G ops n ((i, []) :: l) t σ Q := by
  obtain ⟨b, off, cells, e, ro, rfl, h2, h3, h4⟩ := hpt
  refine evPlan_val hi0 hw ?_ (hp _) (h _ ⟨b, off + k, cells, e, ro, rfl, h2, by grind, ?_⟩)
  · rw [ho]
    exact x_field hx hk
  grind [List.drop_take, List.drop_drop]
theorem p_call {f : Nat} {args : List AV} {t' : AV → PT AV} {R : AV → AHeap → Prop} (hi0 : ops[i]? = some o) (hw : wantedA ops t o = some true) (hv : opX P G (evalT G t) σ o.op = .enter f args σ) (hp : ∀ v, putT t n o.dst v = some (t' v))
    (hc : EvCall P G f args σ R) (h : ∀ v σ', R v σ' → (stillAll P G ops (t' v) σ' rc = true ∧ EvPlan P G ops n l (t' v) σ' Q)) : EvPlan P G ops n ((i, rc) :: l) t σ Q := by
  refine evPlan_call hi0 hw hv (hc.mono fun v σ' hr => ?_)
  simp_all
theorem p_callV {f : Nat} {args : List AV} {u : AV} {t' : AV → PT AV} (hi0 : ops[i]? = some o) (hw : wantedA ops t o = some true) (hv : opX P G (evalT G t) σ o.op = .enter f args σ) (hp : ∀ v, putT t n o.dst v = some (t' v))
    (hc : EvCall P G f args σ fun v σ' => v = u ∧ St σ' K L) (h : ∀ σ', St σ' K L → (stillAll P G ops (t' u) σ' rc = true ∧ EvPlan P G ops n l (t' u) σ' Q)) : EvPlan P G ops n ((i, rc) :: l) t σ Q :=
  p_call hi0 hw hv hp hc fun v σ' ⟨hv, hst⟩ => by simp_all
theorem ev_region_plan {id : Nat} {l : List (Nat × List Nat)} (hf : fastOK P ops = true) (hl : plan P ops = l) (h : EvPlan P G ops n l t σ Q) : Ev P G (.region id ops true) n t σ Q := by
  subst hl; exact ev_region_draw hf h
end
end Go.Ev
namespace Go.Ev
variable [Env]
section
variable {P : Program} {G : Cx} {n : Nat} {t : PT AV} {σ : AHeap} {Q : Ex → PT AV → AHeap → Prop} {ops : Array Oper} {o : Oper} {l : List Oper}
end
inductive XE where
  | mk (op num : Int) (name : List Nat) (kids : List XE)
structure XI where
  kind : Int
  reg : Int
  loc : Int
  order : Int
  to : Int
  exprs : List XE
structure XC where
  regs : Int
  ins : List XI
def HasE (K : KP) : Nat → XE → List AV → Prop
  | 0, _, _ => False
  | k + 1, .mk op num name kids, vs => ∃ v, vs = [.int .i64 op, .int .i64 num, .str name, v] ∧ HasS K 4 (HasE K k) kids v
def HasI (K : KP) (k : Nat) (x : XI) (vs : List AV) : Prop := ∃ v, vs = [.int .i64 x.kind, .int .i64 x.reg, .int .i64 x.loc, .int .i64 x.order, .int .i64 x.to, v] ∧ HasS K 4 (HasE K k) x.exprs v
def HasC (K : KP) (k : Nat) (x : XC) (vs : List AV) : Prop := ∃ v, vs = [.int .i64 x.regs, v] ∧ HasS K 6 (HasI K k) x.ins v
def XE.kids : XE → List XE
  | .mk _ _ _ k => k
theorem HasE.shape {K : KP} {k : Nat} {x : XE} {vs : List AV} (h : HasE K k x vs) : ∃ op num name v, vs = [.int .i64 op, .int .i64 num, .str name, v] ∧ HasS K 4 (HasE K (k - 1)) x.kids v := by
  cases k with
  | zero => cases x; exact h.elim
  | succ k =>
    obtain ⟨op, num, name, kids⟩ := x
    obtain ⟨v, rfl, hk⟩ := h
    exact ⟨_, _, _, v, rfl, hk⟩
open Classical in
def sameX {α : Type} (a b : α) : Bool := decide (a = b)
theorem sameX_iff {α : Type} {a b : α} : sameX a b = true ↔ a = b := by unfold sameX; simp
theorem sameX_no {α : Type} {a b : α} : sameX a b = false ↔ a ≠ b := by unfold sameX; simp
theorem notB_t {c : Bool} (h : (bif c then false else true) = true) : c = false := by cases c <;> simp_all
theorem notB_f {c : Bool} (h : (bif c then false else true) = false) : c = true := by cases c <;> simp_all
theorem sameX_len {α : Type} {l1 l2 : List α} (h : eqI (.ofNat l1.length) (.ofNat l2.length) = false) : sameX l1 l2 = false := by
  rw [sameX_no]
  rintro rfl
  rw [eqI_eq] at h
  simp at h
theorem len_of {α β : Type} {l1 : List α} {l2 : List β} (h : eqI (.ofNat l1.length) (.ofNat l2.length) = true) : l1.length = l2.length := by
  rw [eqI_eq] at h
  grind
theorem sameX_at {α : Type} {l1 l2 : List α} {i : Nat} {x y : α} (hx : l1[i]? = some x) (hy : l2[i]? = some y) (h : sameX x y = false) : sameX l1 l2 = false := by
  rw [sameX_no] at h ⊢
  grind
theorem sameX_all {α : Type} {l1 l2 : List α} {i : Nat} (hl : l1.length = l2.length) (hi : l1.length ≤ i) (h : ∀ k, k < i → l1[k]? = l2[k]?) : sameX l1 l2 = true := by
  rw [sameX_iff]
  refine List.ext_getElem? fun k => ?_
  grind
theorem same_step {α : Type} {l1 l2 : List α} {i : Nat} {x y : α} (h : ∀ k, k < i → l1[k]? = l2[k]?) (hx : l1[i]? = some x) (hy : l2[i]? = some y) (hs : sameX x y = true) : ∀ k, k < i + 1 → l1[k]? = l2[k]? := fun k hk => by
  grind [sameX_iff]
theorem lt_no {a b : Nat} (h : ltI (.ofNat a) (.ofNat b) = false) : b ≤ a := by
  grind [ltI_eq]
theorem lt_yes {a b : Nat} (h : ltI (.ofNat a) (.ofNat b) = true) : a < b := by
  rw [ltI_eq, decide_eq_true_iff] at h
  simp_all
theorem at_of {α : Type} {l : List α} {i : Nat} (h : i < l.length) : ∃ x, l[i]? = some x := ⟨l[i], List.getElem?_eq_getElem h⟩
theorem HasE.beq {K : KP} {k : Nat} {x : XE} {vs : List AV} (h : HasE K k x vs) : beqA (.agg vs) (.agg vs) = true := by
  cases k with
  | zero => cases x; exact h.elim
  | succ k =>
    obtain ⟨op, num, name, kids⟩ := x
    obtain ⟨v, rfl, hk⟩ := h
    exact beqA_agg (beqL_cons (beq1_int _ _) (beqL_cons (beq1_int _ _) (beqL_cons (beq1_str _) (beqL_cons hk.beq1 beqL_nil))))
theorem HasI.beq {K : KP} {k : Nat} {x : XI} {vs : List AV} (h : HasI K k x vs) : beqA (.agg vs) (.agg vs) = true := by
  obtain ⟨v, rfl, hk⟩ := h
  exact beqA_agg (beqL_cons (beq1_int _ _) (beqL_cons (beq1_int _ _) (beqL_cons (beq1_int _ _) (beqL_cons (beq1_int _ _) (beqL_cons (beq1_int _ _) (beqL_cons hk.beq1 beqL_nil))))))
theorem HasC.beq {K : KP} {k : Nat} {x : XC} {vs : List AV} (h : HasC K k x vs) : beqA (.agg vs) (.agg vs) = true := by
  obtain ⟨v, rfl, hk⟩ := h
  exact beqA_agg (beqL_cons (beq1_int _ _) (beqL_cons hk.beq1 beqL_nil))
theorem at_lt {α : Type} {l : List α} {i : Nat} (h : ltI (.ofNat i) (.ofNat l.length) = true) : ∃ x, l[i]? = some x ∧ i < l.length := by
  rw [ltI_eq, decide_eq_true_iff] at h
  simp_all
end Go.Ev
namespace Go.Ev
variable [Env]
def RInt (n : Int) (vs : List AV) : Prop := vs = [.int .i64 n]
def RL {α : Type} (K : KP) (m : Nat) (R : α → List AV → Prop) (l : List α) (vs : List AV) : Prop := ∃ v, vs = [v] ∧ HasS K m R l v
theorem eqI_same {a b : Int} : eqI a b = sameX a b := by rw [eqI_eq, Bool.eq_iff_iff, decide_eq_true_iff, sameX_iff]
def eqIs (xs ys : List Int) : Bool :=
  List.rec (motive := fun _ => List Int → Bool) (fun ys => List.rec (motive := fun _ => Bool) true (fun _ _ _ => false) ys)
    (fun x _ ih ys => List.rec (motive := fun _ => Bool) false (fun y r _ => bif eqI x y then ih r else false) ys) xs ys
theorem eqIs_eq : ∀ (xs ys : List Int), eqIs xs ys = sameX xs ys
  | [], [] => by rw [show eqIs [] [] = true from rfl, eq_comm, sameX_iff]
  | [], _ :: _ => by rw [show eqIs [] (_ :: _) = false from rfl, eq_comm, sameX_no]; simp
  | _ :: _, [] => by rw [show eqIs (_ :: _) [] = false from rfl, eq_comm, sameX_no]; simp
  | x :: xs, y :: ys => by
    show (bif eqI x y then eqIs xs ys else false) = _
    rw [eqIs_eq xs ys, eqI_eq, Bool.eq_iff_iff, sameX_iff]
    grind [sameX_iff]
def ints (xs : List Int) : List AV := xs.map (.int .i64)
def isI64 : Option TypeDesc → Bool
  | some (.int .i64) => true
  | _ => false
def fieldsInt (P : Program) (fs : List Field) : Nat → Bool := List.rec (motive := fun _ => Nat → Bool) (fun _ => true) (fun f _ ih k => isI64 (P.underlying f.type) && (Nat.beq f.offset k && ih (k + 1))) fs
def structInt (P : Program) (t : TypeId) (n : Nat) : Bool :=
  match structOf P t with
  | some fs => fieldsInt P fs.toList 0 && (Nat.beq fs.toList.length n && (!P.eqGuardType P.depth t && (!P.stoodInHeld t && noBlank fs.toList)))
  | none => false
theorem eqFields_ints {P : Program} : ∀ (fs : List Field) (k : Nat) (xs ys : List Int), fieldsInt P fs k = true → xs.length = k + fs.length → ys.length = k + fs.length → eqFields P fs (ints xs) (ints ys) = some (eqIs (xs.drop k) (ys.drop k))
  | [], k, xs, ys, _, h1, h2 => by
    rw [List.drop_eq_nil_of_le (by simp at h1; omega), List.drop_eq_nil_of_le (by simp at h2; omega)]; rfl
  | f :: fs, k, xs, ys, h, h1, h2 => by
    have h' : (isI64 (P.underlying f.type) && (Nat.beq f.offset k && fieldsInt P fs (k + 1))) = true := h
    simp only [Bool.and_eq_true] at h'
    obtain ⟨e1, e2, e3⟩ := h'
    have hk : f.offset = k := Nat.eq_of_beq_eq_true e2
    have hu : P.underlying f.type = some (.int .i64) := by
      grind [isI64]
    have l1 : k < xs.length := by simp at h1; omega
    have l2 : k < ys.length := by simp at h2; omega
    have n1 : nth (ints xs) f.offset = some (.int .i64 xs[k]) := by grind [nth_eq, ints]
    have n2 : nth (ints ys) f.offset = some (.int .i64 ys[k]) := by grind [nth_eq, ints]
    have ih := eqFields_ints fs (k + 1) xs ys e3 (by simp at h1 ⊢; omega) (by simp at h2 ⊢; omega)
    show (match P.underlying f.type, nth (ints xs) f.offset, nth (ints ys) f.offset with
      | some .bool, some (.bool a), some (.bool b) => bif (bif a then b else (bif b then false else true)) then eqFields P fs (ints xs) (ints ys) else some false
      | some (.int _), some (.int j a), some (.int k b) => bif eqK j k then (bif eqI a b then eqFields P fs (ints xs) (ints ys) else some false) else none
      | some .string, some (.str a), some (.str b) => bif eqS a b then eqFields P fs (ints xs) (ints ys) else some false
      | some (.struct gs), _, _ => _
      | some (.array m e), _, _ => _
      | _, _, _ => none) = _
    rw [hu, n1, n2, List.drop_eq_getElem_cons l1, List.drop_eq_getElem_cons l2, ih]
    show (bif eqI xs[k] ys[k] then _ else some false) = some (bif eqI xs[k] ys[k] then eqIs (xs.drop (k + 1)) (ys.drop (k + 1)) else false)
    grind
theorem eqA_ints {P : Program} {t : TypeId} {n : Nat} {xs ys : List Int} (h : structInt P t n = true) (hx : xs.length = n) (hy : ys.length = n) : eqA P t (.agg (ints xs)) (.agg (ints ys)) = some (sameX xs ys) := by
  unfold structInt at h
  split at h
  · rename_i fs hs
    simp only [Bool.and_eq_true, Bool.not_eq_true'] at h
    obtain ⟨h1, h2, h3, h4, h5⟩ := h
    have hn : fs.toList.length = n := Nat.eq_of_beq_eq_true h2
    unfold eqA
    dsimp only
    rw [hs]
    dsimp only
    rw [h3, h4, h5]
    simp only [Bool.not_true, Bool.or_false, cond_false]
    rw [eqFields_ints fs.toList 0 xs ys h1 (by omega) (by omega), List.drop_zero, List.drop_zero, eqIs_eq]
  · cases h
section
variable {P : Program} {G : Cx} {ev : Operand → Option AV} {σ : AHeap}
theorem x_neS {t r : TypeId} {x y : Operand} {n : Nat} {ca cb : List Int} (h : structInt P t n = true) (ha : ca.length = n) (hb : cb.length = n) (hx : ev x = some (.agg (ints ca))) (hy : ev y = some (.agg (ints cb))) : opX P G ev σ (.binOp .neq t x y r) = .val (.bool (bif sameX ca cb then false else true)) σ := by
  refine x_bin hx hy ?_
  show eqOpA P .neq t _ _ = _
  unfold eqOpA
  dsimp only
  rw [eqA_ints h ha hb]
end
structure XId where
  thread : Int
  index : Int
structure XEv where
  kind : Int
  loc : Int
  order : Int
  read : Int
  write : Int
structure XG where
  init : List Int
  threads : List (List XEv)
  from_ : List (List XId)
  order : List (List XId)
def XId.ints (x : XId) : List Int := [x.thread, x.index]
def XEv.ints (x : XEv) : List Int := [x.kind, x.loc, x.order, x.read, x.write]
theorem XId.same {x y : XId} : sameX x.ints y.ints = sameX x y := by
  rw [Bool.eq_iff_iff, sameX_iff, sameX_iff]
  cases x; cases y; simp [XId.ints]
theorem XEv.same {x y : XEv} : sameX x.ints y.ints = sameX x y := by
  rw [Bool.eq_iff_iff, sameX_iff, sameX_iff]
  cases x; cases y; simp [XEv.ints]
def RId (x : XId) (vs : List AV) : Prop := vs = ints x.ints
def REv (x : XEv) (vs : List AV) : Prop := vs = ints x.ints
structure HasG (K : KP) (g : XG) (a b c d : AV) : Prop where
  init : HasS K 1 RInt g.init a
  threads : HasS K 1 (RL K 5 REv) g.threads b
  from_ : HasS K 1 (RL K 2 RId) g.from_ c
  order : HasS K 1 (RL K 2 RId) g.order d
theorem sameX_G {a b : XG} : sameX a b = (sameX a.init b.init && (sameX a.threads b.threads && (sameX a.from_ b.from_ && sameX a.order b.order))) := by
  rw [Bool.eq_iff_iff, sameX_iff]
  cases a; cases b; simp [sameX_iff]
def readsB (e : XEv) : Bool := bif eqI e.kind 1 then true else eqI e.kind 3
def writesB (e : XEv) : Bool := bif eqI e.kind 2 then true else eqI e.kind 3
def notB (b : Bool) : Bool := bif b then false else true
def rightEvB (e : XEv) (n : Int) : Bool :=
  bif ltI e.kind 1 then false else bif ltI 4 e.kind then false else bif ltI e.order 1 then false else bif ltI 6 e.order then false else
  bif (bif (!readsB e) then notB (eqI e.read 0) else false) then false else bif (bif (!writesB e) then notB (eqI e.write 0) else false) then false else
  bif eqI e.kind 4 then eqI e.loc 0 else bif notB (ltI e.loc 0) then ltI e.loc n else false
def evAt (g : XG) (id : XId) : Option XEv :=
  match id.thread, id.index with
  | .ofNat 0, .ofNat i => (g.init[i]?).map fun v => ⟨2, i, 1, 0, v⟩
  | .ofNat (t + 1), .ofNat i => (g.threads[t]?).bind (·[i]?)
  | _, _ => none
def evD (x : Option XEv) : XEv := x.getD ⟨0, 0, 0, 0, 0⟩
theorem evAt_neg1 {g : XG} {th ix : Int} (h : ltI th 0 = true) : evAt g ⟨th, ix⟩ = none := by
  rw [ltI_eq, decide_eq_true_iff] at h
  cases th with
  | ofNat t => grind
  | negSucc t => rfl
theorem evAt_neg2 {g : XG} {th ix : Int} (h : ltI ix 0 = true) : evAt g ⟨th, ix⟩ = none := by
  rw [ltI_eq, decide_eq_true_iff] at h
  cases ix with
  | ofNat t => grind
  | negSucc t => cases th with
    | ofNat n => cases n <;> rfl
    | negSucc n => rfl
theorem nat_of {n : Int} (h : ltI n 0 = false) : ∃ m : Nat, n = .ofNat m := by
  rw [ltI_eq, decide_eq_false_iff_not] at h
  cases n with
  | ofNat m => exact ⟨m, rfl⟩
  | negSucc m => omega
theorem wr_pred {t : Nat} (h : t ≤ 9223372036854775807) : wr .i64 (Int.sub (.ofNat (t + 1)) 1) = .ofNat t := by
  have e : Int.sub (.ofNat (t + 1)) 1 = .ofNat t := by
    grind
  rw [e]
  show (bif Nat.ble t 9223372036854775807 then _ else _) = _
  grind [Nat.ble_eq]
theorem lt_of_ge {a b : Nat} (h : (bif ltI (.ofNat a) (.ofNat b) then false else true) = false) : a < b := lt_yes (notB_f h)
theorem ge_of_ge {a b : Nat} (h : (bif ltI (.ofNat a) (.ofNat b) then false else true) = true) : b ≤ a := lt_no (notB_t h)
section
variable {P : Program} {G : Cx} {n : Nat} {t : PT AV} {σ : AHeap} {Q : Ex → PT AV → AHeap → Prop}
end
end Go.Ev
namespace Go.Ev
variable [Env]
def rightFromB (g : XG) (id from_ : XId) : Bool :=
  bif !readsB (evD (evAt g id)) then sameX [from_.thread, from_.index] [0, 0] else
  bif (evAt g from_).isSome then
    bif (bif sameX [from_.thread, from_.index] [id.thread, id.index] then false else true) then
      bif writesB (evD (evAt g from_)) then
        bif eqI (evD (evAt g from_)).loc (evD (evAt g id)).loc then eqI (evD (evAt g from_)).write (evD (evAt g id)).read else false
      else false
    else false
  else false
def tooLongB (g : XG) : Bool := bif ltI 4 (.ofNat g.threads.length) then true else bif ltI 6 (.ofNat g.init.length) then true else g.threads.any fun l => ltI 14 (.ofNat l.length)
abbrev LM := List (List Int × Int)
inductive MapIs (n : Nat) : List AEnt → LM → Prop
  | nil : MapIs n [] []
  | cons {e : AEnt} {k : List Int} {v : Int} {es : List AEnt} {m : LM} : k.length = n → e.key = .agg (ints k) → e.val = .int .i64 v → MapIs n es m → MapIs n (e :: es) ((k, v) :: m)
def lmAt : LM → List Int → Nat → Option (Nat × Int)
  | [], _, _ => none
  | (k', v) :: m, k, i => bif sameX k k' then some (i, v) else lmAt m k (i + 1)
def lmGet (m : LM) (k : List Int) : Option Int := (lmAt m k 0).map (·.2)
def lmPut (m : LM) (k : List Int) (v : Int) : LM :=
  match lmAt m k 0 with
  | some (i, _) => m.set i (k, v)
  | none => m ++ [(k, v)]
def lmDel (m : LM) (k : List Int) : LM :=
  match lmAt m k 0 with
  | some (i, _) => m.eraseIdx i
  | none => m
theorem MapIs.length {n : Nat} {es : List AEnt} {m : LM} (h : MapIs n es m) : es.length = m.length := by
  induction h with
  | nil => rfl
  | cons _ _ _ _ ih => simp [ih]
theorem MapIs.set {n : Nat} {es : List AEnt} {m : LM} (h : MapIs n es m) {e : AEnt} {k : List Int} {v : Int} (h1 : k.length = n) (h2 : e.key = .agg (ints k)) (h3 : e.val = .int .i64 v) : ∀ i, MapIs n (es.set i e) (m.set i (k, v)) := by
  induction h with
  | nil => intro i; exact .nil
  | cons a b c d ih =>
    intro i
    cases i with
    | zero => exact .cons h1 h2 h3 d
    | succ i => exact .cons a b c (ih i)
theorem MapIs.snoc {n : Nat} {es : List AEnt} {m : LM} (h : MapIs n es m) {e : AEnt} {k : List Int} {v : Int} (h1 : k.length = n) (h2 : e.key = .agg (ints k)) (h3 : e.val = .int .i64 v) : MapIs n (es ++ [e]) (m ++ [(k, v)]) := by
  induction h with
  | nil => exact .cons h1 h2 h3 .nil
  | cons a b c d ih => exact .cons a b c ih
theorem MapIs.erase {n : Nat} {es : List AEnt} {m : LM} (h : MapIs n es m) : ∀ i, MapIs n (es.eraseIdx i) (m.eraseIdx i) := by
  induction h with
  | nil => intro i; exact .nil
  | cons a b c d ih =>
    intro i
    cases i with
    | zero => exact d
    | succ i => exact .cons a b c (ih i)
theorem MapIs.at {n : Nat} {es : List AEnt} {m : LM} (h : MapIs n es m) : ∀ {i : Nat} {k : List Int} {v : Int}, m[i]? = some (k, v) → ∃ e, es[i]? = some e ∧ k.length = n ∧ e.key = .agg (ints k) := by
  induction h with
  | nil => simp_all
  | cons a b c d ih =>
    grind
theorem lmAt_some : ∀ {m : LM} {k : List Int} {i j : Nat} {v : Int}, lmAt m k i = some (j, v) → i ≤ j ∧ m[j - i]? = some (k, v)
  | [], k, i, j, v, h => by cases h
  | (k', v') :: m, k, i, j, v, h => by
    have h' : (bif sameX k k' then some (i, v') else lmAt m k (i + 1)) = some (j, v) := h
    cases hs : sameX k k' with
    | true =>
      grind [sameX_iff]
    | false =>
      rw [hs] at h'
      obtain ⟨h1, h2⟩ := lmAt_some h'
      grind
section
variable {P : Program}
structure MapT (P : Program) (t kt et : TypeId) (n : Nat) : Prop where
  ty : P.underlying t = some (.map kt et)
  plain : plainKey P kt = true
  ints : structInt P kt n = true
  zero : zeroA P et = some (.int .i64 0)
  shape : ∀ k : List Int, k.length = n → keyShape P kt (.agg (Go.Ev.ints k)) = true
variable {G : Cx} {ev : Operand → Option AV} {σ : AHeap}
end
section
variable {P : Program} {G : Cx} {n : Nat} {t : PT AV} {σ : AHeap} {K : KP} {L : Own} {Q : Ex → PT AV → AHeap → Prop} {ops : Array Oper} {o : Oper} {l : List Oper}
end
end Go.Ev
namespace Go.Ev
variable [Env]
def insE (t : Nat) (m : LM) (n : Nat) (e : XEv) : LM := bif writesB e then lmPut m [.ofNat (t + 1), .ofNat n] e.loc else m
def insL (t : Nat) : List XEv → Nat → LM → LM
  | [], _, m => m
  | e :: l, n, m => insL t l (n + 1) (insE t m n e)
def insT : List (List XEv) → Nat → LM → LM
  | [], _, m => m
  | l :: r, t, m => insT r (t + 1) (insL t l 0 m)
def chkL (loc : Nat) : List XId → LM → Option LM
  | [], m => some m
  | id :: l, m => bif (lmGet m id.ints).isSome then (bif eqI ((lmGet m id.ints).getD 0) (.ofNat loc) then chkL loc l (lmDel m id.ints) else none) else none
def chkO : List (List XId) → Nat → LM → Option LM
  | [], _, m => some m
  | l :: r, loc, m => (chkL loc l m).bind (chkO r (loc + 1))
def rightOrderB (g : XG) : Bool :=
  match chkO g.order 0 (insT g.threads 0 []) with
  | some m => eqI (.ofNat m.length) 0
  | none => false
theorem drop_at {α : Type} {l : List α} {i : Nat} {x : α} (h : l[i]? = some x) : l.drop i = x :: l.drop (i + 1) := by
  grind [List.drop_eq_getElem_cons]
theorem drop_end {α : Type} {l : List α} {i : Nat} (h : l.length ≤ i) : l.drop i = [] := List.drop_eq_nil_of_le h
end Go.Ev
namespace Go.Ev
theorem not_f {b : Bool} (h : (!b) = false) : b = true := by cases b <;> simp_all
end Go.Ev
namespace Go.Ev
variable [Env]
def idxF {α : Type} (p : α → Bool) : List α → Nat → Int
  | [], _ => -1
  | x :: r, i => bif p x then .ofNat i else idxF p r (i + 1)
def okE (g : XG) (t n : Nat) (e : XEv) (f : XId) : Bool := bif rightEvB e (.ofNat g.init.length) then rightFromB g ⟨.ofNat (t + 1), .ofNat n⟩ f else false
def rowB (g : XG) (t : Nat) : List XEv → List XId → Nat → Bool
  | e :: l, f :: q, n => bif okE g t n e f then rowB g t l q (n + 1) else false
  | [], _, _ => true
  | _ :: _, [], _ => false
def rowsB (g : XG) : List (List XEv) → List (List XId) → Nat → Bool
  | l :: r, f :: q, t => bif eqI (.ofNat f.length) (.ofNat l.length) then (bif rowB g t l f 0 then rowsB g r q (t + 1) else false) else false
  | [], _, _ => true
  | _ :: _, [], _ => false
def checkI (g : XG) : Int :=
  bif tooLongB g then 3 else bif eqI (.ofNat g.from_.length) (.ofNat g.threads.length) then (bif eqI (.ofNat g.order.length) (.ofNat g.init.length) then (bif rowsB g g.threads g.from_ 0 then (bif rightOrderB g then 0 else 2) else 2) else 2) else 2
theorem splice_nil : ∀ (l : List AV) (off : Nat), splice [] l off = l
  | [], _ => rfl
  | x :: l, 0 => rfl
  | x :: l, off + 1 => by
    show x :: splice [] l off = x :: l
    rw [splice_nil l off]
def appT (P : Program) (e : TypeId) (m : Nat) : Bool :=
  match P.info? e with
  | some j => Nat.beq j.size m && (Nat.ble 1 j.size && (Nat.ble j.bytes 65536 && ((j.zero.bind ofVal).any fun z => (cellsA z).any fun cs => Nat.beq (lenN cs) j.size)))
  | none => false
theorem allLeaf_app : ∀ (l r : List AV), allLeaf l = true → allLeaf r = true → allLeaf (l ++ r) = true
  | [], r, _, h => h
  | v :: l, r, h, h' => by
    have h1 : (bif leafB v then allLeaf l else false) = true := h
    cases hv : leafB v with
    | false => rw [hv] at h1; cases h1
    | true => rw [hv] at h1; exact allLeaf_cons hv (allLeaf_app l r h1 h')
theorem leaf_pieces {m : Nat} : ∀ (n : Nat) (cells : List AV), cells.length = n * m → (∀ i, i < n → allLeaf ((cells.drop (i * m)).take m) = true) → allLeaf cells = true
  | 0, cells, h, _ => by
    rw [Nat.zero_mul] at h
    rw [List.eq_nil_of_length_eq_zero h]; rfl
  | n + 1, cells, h, hh => by
    have e : cells = cells.take m ++ cells.drop m := (List.take_append_drop m cells).symm
    rw [Nat.succ_mul] at h
    rw [e]
    refine allLeaf_app _ _ (by have := hh 0 (by omega); grind) (leaf_pieces (m := m) n (cells.drop m) (by grind) fun i hi => ?_)
    grind [Nat.succ_mul, List.drop_drop]
section
variable {P : Program} {G : Cx} {σ : AHeap} {K : KP} {L : Own}
theorem source_of {α : Type} {m : Nat} {R : α → List AV → Prop} {l : List α} {v : AV} (hst : St σ K L) (h : HasS K m R l v) (hleaf : ∀ x vs, R x vs → allLeaf vs = true) :
    ∃ news, sourceA σ m v = some (l.length, news) ∧ news.length = l.length * m ∧ allLeaf news = true ∧ ∀ (i : Nat) (x : α), l[i]? = some x → R x ((news.drop (i * m)).take m) := by
  rcases h with ⟨rfl, rfl⟩ | ⟨b, off, c, cells, e, ro, rfl, h2, h3, h4, h5, h6⟩
  · exact ⟨[], rfl, (Nat.zero_mul m).symm, rfl, fun i x hx => by simp at hx⟩
  · have hR : ∀ (i : Nat) (x : α), l[i]? = some x → R x ((((cells.drop off).take (l.length * m)).drop (i * m)).take m) := fun i x hx => by
      have hlt : i < l.length := (List.getElem?_eq_some_iff.1 hx).1
      have hle : (i + 1) * m ≤ l.length * m := Nat.mul_le_mul_right _ hlt
      grind [List.drop_take, List.drop_drop]
    have hn : ((cells.drop off).take (l.length * m)).length = l.length * m := by grind
    refine ⟨(cells.drop off).take (l.length * m), ?_, hn, leaf_pieces l.length _ hn fun i hi => hleaf _ _ (hR i l[i] (List.getElem?_eq_getElem hi)), hR⟩
    unfold sourceA
    dsimp only
    rw [hst.getK h3]
    grind [lenN_eq, Nat.ble_eq, takeN_eq, dropN_eq]
theorem x_append {α : Type} {m e : Nat} {R : α → List AV → Prop} {l2 : List α} {v2 : AV} {b len1 e1 : Nat} {cells1 : List AV} {c : Cap} {ts : Array TypeId} {t : TypeId} (hs : St σ K ((b, .row cells1 e1 false) :: L)) (hx : HasS K m R l2 v2) (hleaf : ∀ x vs, R x vs → allLeaf vs = true) (hn : l2.length ≤ 1048576)
    (hc1 : cells1.length = len1 * m) (hl1 : len1 ≤ 1048576) (hcap : c = .known len1 ∨ (c = .upto m ∧ e1 = e)) (ht : ts[0]? = some t) (hu : P.underlying t = some (.slice e)) (ha : appT P e m = true) (h2 : sliceOrStr P ts[1]? = true) :
    ∃ σ' b' c' news e', appendA P σ ts (.slice b 0 len1 c) v2 = .val (.slice b' 0 (len1 + l2.length) c') σ' ∧ St σ' K ((b', .row (cells1 ++ news) e' false) :: L) ∧ news.length = l2.length * m ∧ (∀ (i : Nat) (x : α), l2[i]? = some x → R x ((news.drop (i * m)).take m)) ∧ (c' = .known (len1 + l2.length) ∨ (c' = .upto m ∧ e' = e)) := by
  obtain ⟨news, s1, s2, s3, s4⟩ := source_of hs hx hleaf
  unfold appT at ha
  split at ha
  · rename_i j hj
    simp only [Bool.and_eq_true] at ha
    obtain ⟨a1, a2, a3, a4⟩ := ha
    have hm : j.size = m := Nat.eq_of_beq_eq_true a1
    subst hm
    have hz : ((P.info? e).any fun j => (j.zero.bind ofVal).any fun z => (cellsA z).any fun cs => Nat.beq (lenN cs) j.size) = true := by rw [hj]; exact a4
    have hb := hs.get 0 rfl
    unfold appendA
    rw [ht]
    dsimp only
    rw [hu]
    dsimp only
    rw [hj]
    dsimp only
    rw [h2, a2, a3]
    simp only [Bool.and_self, cond_true]
    rw [s1]
    dsimp only
    rw [hj] at hz
    rw [s3, show Nat.ble l2.length 1048576 = true by simp_all, hz]
    simp only [Bool.and_self, cond_true]
    have hle : Nat.ble (0 + len1 * j.size) (lenN cells1) = true := by rw [Nat.ble_eq, lenN_eq, hc1]; omega
    have htake : takeN (dropN cells1 0) (len1 * j.size) = cells1 := by grind [takeN_eq, dropN_eq]
    have hl1' : Nat.ble len1 1048576 = true := by simp_all
    rcases hcap with rfl | ⟨rfl, rfl⟩
    · dsimp only
      by_cases h0 : l2.length = 0
      · have hnews : news = [] := List.eq_nil_of_length_eq_zero (by simp_all)
        subst hnews
        rw [h0, show Nat.ble (len1 + 0) len1 = true by simp_all]
        simp only [cond_true]
        rw [hb]
        dsimp only
        rw [show Nat.ble (0 + len1 * j.size + lenN []) (lenN cells1) = true by rw [Nat.ble_eq, lenN_eq, lenN_eq, hc1]; simp]
        simp only [cond_true]
        refine ⟨_, b, .known len1, [], e1, rfl, ?_, by simp, s4, .inl rfl⟩
        rw [splice_nil, List.append_nil]
        exact hs.set0 _
      · have : Nat.ble (len1 + l2.length) len1 = false := by
          grind [Nat.ble_eq]
        rw [this]
        simp only [cond_false]
        rw [hb]
        dsimp only
        rw [hle, hl1', htake, appN_eq]
        simp only [Bool.and_self, cond_true]
        refine ⟨_, _, _, news, e, rfl, ?_, s2, s4, .inr ⟨rfl, rfl⟩⟩
        exact ((hs.alloc _).perm (List.Perm.swap ..)).pop
    · dsimp only
      by_cases h0 : l2.length = 0
      · have hnews : news = [] := List.eq_nil_of_length_eq_zero (by simp_all)
        subst hnews
        rw [h0]
        exact ⟨_, b, .upto j.size, [], e1, rfl, by simp_all, by simp, s4, .inr ⟨rfl, rfl⟩⟩
      · have : Nat.beq l2.length 0 = false := by
          grind [Nat.eq_of_beq_eq_true]
        rw [this, Nat.beq_refl, hl1']
        simp only [Bool.and_self, cond_true, cond_false]
        rw [hb]
        dsimp only
        have hnot : Nat.ble (0 + len1 * j.size + lenN news) (lenN cells1) = false := by
          cases hh : Nat.ble (0 + len1 * j.size + lenN news) (lenN cells1) with
          | false => rfl
          | true =>
            rw [Nat.ble_eq, lenN_eq, lenN_eq, hc1, s2] at hh
            have h1 : 1 ≤ j.size := by simp_all
            have : 1 ≤ l2.length * j.size := Nat.mul_pos (by omega) h1
            omega
        rw [hnot, Bool.and_false]
        simp only [cond_false]
        rw [hle, Nat.beq_refl, htake, appN_eq]
        simp only [Bool.and_self, cond_true]
        exact ⟨_, _, _, news, e1, rfl, hs.regrow _, s2, s4, .inr ⟨rfl, rfl⟩⟩
  · cases ha
end
section
variable {P : Program} {G : Cx} {n : Nat} {t : PT AV} {σ : AHeap} {K : KP} {L : Own} {Q : Ex → PT AV → AHeap → Prop} {ops : Array Oper} {o : Oper} {l : List Oper}
theorem x_appendOp {ev : Operand → Option AV} {cl : Call} {so xo : Operand} {s x : AV} {r : HR} (hc : cl.callee = .builtin .append) (ha : cl.args.toList = [so, xo]) (h1 : ev so = some s) (h2 : ev xo = some x) (hsl : sliceOrStr P cl.argTypes[1]? = true) (h : appendA P σ cl.argTypes s x = r) : opX P G ev σ (.call cl) = r := by
  refine x_heavy (by simp [kindOf, hc]) ?_
  have he : evs ev [so, xo] = some [s, x] := by
    unfold evs allSome
    simp only [h1, h2]
  simp only [heavyA, hc, ha, he, hsl, cond_true]
  exact h
theorem o_append {α : Type} {m e : Nat} {R : α → List AV → Prop} {l2 : List α} {v2 : AV} {b len1 e1 : Nat} {cells1 : List AV} {c : Cap} {ty : TypeId} {cl : Call} {so xo : Operand} {t' : AV → PT AV} (hs : St σ K ((b, .row cells1 e1 false) :: L)) (hx : HasS K m R l2 v2) (hleaf : ∀ x vs, R x vs → allLeaf vs = true) (hn : l2.length ≤ 1048576)
    (hc1 : cells1.length = len1 * m) (hl1 : len1 ≤ 1048576) (hcap : c = .known len1 ∨ (c = .upto m ∧ e1 = e)) (hw : wantedA ops t o = some true) (ho : o.op = .call cl) (hcl : cl.callee = .builtin .append) (hargs : cl.args.toList = [so, xo]) (ht : cl.argTypes[0]? = some ty) (hu : P.underlying ty = some (.slice e)) (ha : appT P e m = true) (h2 : sliceOrStr P cl.argTypes[1]? = true)
    (e1' : evalT G t so = some (.slice b 0 len1 c)) (e2' : evalT G t xo = some v2) (hp : ∀ v, putT t n o.dst v = some (t' v))
    (h : ∀ (σ' : AHeap) (b' : Nat) (c' : Cap) (news : List AV) (e' : Nat), St σ' K ((b', .row (cells1 ++ news) e' false) :: L) → news.length = l2.length * m → (∀ (i : Nat) (x : α), l2[i]? = some x → R x ((news.drop (i * m)).take m)) → (c' = .known (len1 + l2.length) ∨ (c' = .upto m ∧ e' = e)) → EvOps P G ops n l (t' (.slice b' 0 (len1 + l2.length) c')) σ' Q) : EvOps P G ops n (o :: l) t σ Q := by
  obtain ⟨σ', b', c', news, e', k1, k2, k3, k4, k5⟩ := x_append (P := P) hs hx hleaf hn hc1 hl1 hcap ht hu ha h2
  refine evOps_val hw ?_ (hp _) (h σ' b' c' news e' k2 k3 k4 k5)
  rw [ho]
  exact x_appendOp hcl hargs e1' e2' h2 k1
end
end Go.Ev
namespace Go.Ev
variable [Env]
section
variable {P : Program} {G : Cx} {n : Nat} {t : PT AV} {σ : AHeap} {K : KP} {L : Own} {Q : Ex → PT AV → AHeap → Prop} {ops : Array Oper} {o : Oper} {l : List Oper}
end
theorem check_bounds {g : XG} (h : checkI g = 0) : g.threads.length ≤ 4 ∧ g.init.length ≤ 6 ∧ (∀ l ∈ g.threads, l.length ≤ 14) ∧ g.from_.length = g.threads.length ∧ g.order.length = g.init.length ∧ rowsB g g.threads g.from_ 0 = true ∧ rightOrderB g = true := by
  unfold checkI at h
  cases h1 : tooLongB g with
  | true => rw [h1] at h; cases h
  | false =>
    rw [h1] at h
    simp only [cond_false] at h
    cases h2 : eqI (.ofNat g.from_.length) (.ofNat g.threads.length) with
    | false => rw [h2] at h; cases h
    | true =>
      rw [h2] at h
      simp only [cond_true] at h
      cases h3 : eqI (.ofNat g.order.length) (.ofNat g.init.length) with
      | false => rw [h3] at h; cases h
      | true =>
        rw [h3] at h
        simp only [cond_true] at h
        cases h4 : rowsB g g.threads g.from_ 0 with
        | false => rw [h4] at h; cases h
        | true =>
          rw [h4] at h
          simp only [cond_true] at h
          cases h5 : rightOrderB g with
          | false => rw [h5] at h; cases h
          | true =>
            unfold tooLongB at h1
            cases k1 : ltI 4 (.ofNat g.threads.length) with
            | true => simp_all
            | false =>
              rw [k1] at h1
              simp only [cond_false] at h1
              cases k2 : ltI 6 (.ofNat g.init.length) with
              | true => simp_all
              | false =>
                rw [k2] at h1
                simp only [cond_false] at h1
                refine ⟨lt_no (a := 4) k1, lt_no (a := 6) k2, fun l hl => ?_, len_of h2, len_of h3, rfl, rfl⟩
                have := List.any_eq_false.1 h1 l hl
                exact lt_no (a := 14) (by simpa using this)
def sumLen {α : Type} (ls : List (List α)) : Nat := (ls.map List.length).sum
def countG (g : XG) : Nat := bif eqI (checkI g) 0 then g.init.length + sumLen g.threads else 0
end Go.Ev
namespace Go.Ev
variable [Env]
theorem eq0 {a : Int} (h : eqI a 0 = true) : a = 0 := by rw [eqI_eq] at h; simp_all
section
variable {σ : AHeap} {K K' : KP} {L : Own}
theorem St.weaken (h : St σ K' L) (hk : KP.le K K') : St σ K L where
  kept b o hb := h.kept b o (hk b o hb)
  own := h.own
  ne := h.ne
def KP.adds (K : KP) (M : Own) : KP := fun b o => K b o ∨ (b, o) ∈ M
theorem KP.le_adds (K : KP) (M : Own) : KP.le K (K.adds M) := fun _ _ h => .inl h
theorem KP.adds_get {M : Own} (k : Nat) {b : Nat} {o : AObj} (h : M[k]? = some (b, o)) : K.adds M b o := .inr (List.mem_of_getElem? h)
theorem St.keeps {M : Own} (h : St σ K (M ++ L)) : St σ (K.adds M) L where
  kept b o hb := by
    rcases hb with hb | hb
    · exact h.pops.kept b o hb
    · obtain ⟨h1, h2⟩ := h.own _ (List.mem_append_left _ hb)
      exact ⟨h1, h2, fun e he hh => (List.pairwise_append.1 h.ne).2.2 _ hb e he hh.symm⟩
  own e he := h.own e (List.mem_append_right _ he)
  ne := (List.pairwise_append.1 h.ne).2.1
theorem pts_row {b e : Nat} {ro : Bool} {cells : List AV} (h : K b (.row cells e ro)) : PtsTo K (.ptr b 0) cells := ⟨b, 0, cells, e, ro, rfl, h, by omega, by simp⟩
end
section
variable {P : Program} {G : Cx} {K K' : KP}
def RFun (P : Program) (G : Cx) (K : KP) (n : Int) (vs : List AV) : Prop :=
  ∃ (f : Nat) (ca : List AV), vs = [.func f [] ca] ∧ isGo P f = true ∧ ∀ (σ : AHeap) (L : Own), St σ K L → EvCall P G f ca σ fun v σ' => v = .int .i64 n ∧ St σ' K L
def RFuns (P : Program) (G : Cx) (K : KP) (l : List Int) (cells : List AV) : Prop := l.length = cells.length ∧ ∀ (i : Nat) (x : Int), l[i]? = some x → ∃ c, cells[i]? = some c ∧ RFun P G K x [c]
theorem RFuns.nil : RFuns P G K [] [] := ⟨rfl, fun i x h => by simp at h⟩
theorem RFuns.cons {x : Int} {l : List Int} {c : AV} {cells : List AV} (h : RFun P G K x [c]) (hs : RFuns P G K l cells) : RFuns P G K (x :: l) (c :: cells) := by
  refine ⟨by simp [hs.1], fun i y hy => ?_⟩
  cases i with
  | zero => simp_all
  | succ i => exact hs.2 i y (by simpa using hy)
theorem RFuns.slice {l : List Int} {cells : List AV} (h : RFuns P G K l cells) {b e n c : Nat} (hk : K b (.row cells e false)) (hn : l.length = n) (hc : n ≤ c) (hl : n ≤ 9223372036854775807) : HasS K 1 (RFun P G K) l (.slice b 0 n (.known c)) := by
  subst hn
  refine .inr ⟨b, 0, _, cells, e, false, rfl, .inr ⟨_, rfl, hc⟩, hk, by rw [h.1]; omega, hl, fun i x hx => ?_⟩
  obtain ⟨c, hc, hr⟩ := h.2 i x hx
  have : (cells.drop (0 + i * 1)).take 1 = [c] := by
    obtain ⟨hlt, rfl⟩ := List.getElem?_eq_some_iff.1 hc
    grind [List.drop_eq_getElem_cons]
  rw [this]; exact hr
theorem call_keeps {f : Nat} {args : List AV} {σ : AHeap} {M L : Own} {u : AV} (h : EvCall P G f args σ fun v σ' => v = u ∧ St σ' (K.adds M) L) : EvCall P G f args σ fun v σ' => v = u ∧ St σ' K L :=
  h.mono fun _ _ ⟨a, b⟩ => ⟨a, b.weaken (K.le_adds M)⟩
theorem x_buildS {ev : Operand → Option AV} {σ : AHeap} {t e : TypeId} {len m : Nat} {parts : Array (Nat × Operand)} {z cs : List AV} (ht : P.underlying t = some (.slice e)) (hj : (P.info? e).map (·.size) = some m) (hz : (zeroA P e).bind cellsA = some z)
    (hb : (Nat.beq (lenN z) m && Nat.ble (len * m) 16777216 && Nat.ble 1 m) = true) (hf : fillA (fun i => some (i * m, m)) ev parts.toList (timesN z len) = some cs) : opX P G ev σ (.buildSlice t len parts) = .val (.slice σ.next 0 len (.known len)) (σ.alloc (.row cs e false)) := by
  refine x_alloc (mk := .slice len len) rfl ?_
  obtain ⟨j, hj', rfl⟩ := Option.map_eq_some_iff.1 hj
  simp only [allocA, ht, hj', hz, hb, cond_true, hf]
end
section
variable {P : Program} {G : Cx} {n : Nat} {t : PT AV} {σ : AHeap} {K : KP} {L : Own} {Q : Ex → PT AV → AHeap → Prop} {ops : Array Oper} {o : Oper} {l : List Oper} {ix : Nat} {lp : List (Nat × List Nat)}
end
theorem beqA_int (k : IntKind) (n : Int) : beqA (.int k n) (.int k n) = true := by
  unfold Go.Ev.beqA
  exact beq1_int k n
theorem HasS.beqA {α : Type} {K : KP} {m : Nat} {R : α → List AV → Prop} {l : List α} {v : AV} (h : HasS K m R l v) : Go.Ev.beqA v v = true := by
  have hb := h.beq1
  rcases h with ⟨_, rfl⟩ | ⟨b, off, c, cells, e, ro, rfl, hc, _⟩ <;> exact hb
def cmpZ (x y : Int) : Int := bif ltI x y then -1 else bif ltI y x then 1 else 0
def fnz : List Int → Int
  | [] => 0
  | x :: l => bif eqI x 0 then fnz l else x
def cmpL {α : Type} (c : α → α → Int) : List α → List α → Int
  | [], [] => 0
  | [], _ :: _ => -1
  | _ :: _, [] => 1
  | x :: l, y :: m => bif eqI (c x y) 0 then cmpL c l m else c x y
theorem nan_i (n : Int) : (bif eqI n n then false else true) = false := by rw [eqI_eq]; simp
theorem cmpL_more {α : Type} {c : α → α → Int} : ∀ {l m : List α} {i : Nat} {x : α}, l[i]? = some x → m.length ≤ i → cmpL c (l.drop i) (m.drop i) = 1 := by
  intro l m i x h hm
  rw [drop_at h, drop_end hm]; rfl
theorem cmpL_less {α : Type} {c : α → α → Int} {l m : List α} {i : Nat} (h : l.length ≤ i) (hm : i ≤ l.length) (hl : l.length < m.length) : cmpL c (l.drop i) (m.drop i) = -1 := by
  obtain ⟨y, hy⟩ := at_of (show i < m.length by omega)
  rw [drop_end h, drop_at hy]; rfl
theorem cmpL_end {α : Type} {c : α → α → Int} {l m : List α} {i : Nat} (h : l.length ≤ i) (hl : m.length ≤ l.length) : cmpL c (l.drop i) (m.drop i) = 0 := by
  rw [drop_end h, drop_end (by omega)]; rfl
theorem cmpL_step {α : Type} {c : α → α → Int} {l m : List α} {i : Nat} {x y : α} (hx : l[i]? = some x) (hy : m[i]? = some y) (h : eqI (c x y) 0 = true) : cmpL c (l.drop i) (m.drop i) = cmpL c (l.drop (i + 1)) (m.drop (i + 1)) := by
  rw [drop_at hx, drop_at hy]; show (bif eqI (c x y) 0 then _ else _) = _; rw [h]; rfl
theorem cmpL_stop {α : Type} {c : α → α → Int} {l m : List α} {i : Nat} {x y : α} (hx : l[i]? = some x) (hy : m[i]? = some y) (h : eqI (c x y) 0 = false) : cmpL c (l.drop i) (m.drop i) = c x y := by
  rw [drop_at hx, drop_at hy]; show (bif eqI (c x y) 0 then _ else _) = _; rw [h]; rfl
def cmpLen {α : Type} (a b : List α) : Int := cmpZ (.ofNat a.length) (.ofNat b.length)
def cmpId (a b : XId) : Int := fnz [cmpZ a.thread b.thread, cmpZ a.index b.index]
def cmpEv (a b : XEv) : Int := fnz [cmpZ a.kind b.kind, cmpZ a.loc b.loc, cmpZ a.order b.order, cmpZ a.read b.read, cmpZ a.write b.write]
def cmpIds (a b : List XId) : Int := fnz [cmpLen a b, cmpL cmpId a b]
def cmpG (a b : XG) : Int := fnz [cmpLen a.threads b.threads, cmpL cmpLen a.threads b.threads, cmpL (cmpL cmpEv) a.threads b.threads, cmpLen a.from_ b.from_, cmpL cmpIds a.from_ b.from_, cmpLen a.order b.order, cmpL cmpIds a.order b.order, cmpLen a.init b.init, cmpL cmpZ a.init b.init]
def OwnS {α : Type} (m E : Nat) (R : α → List AV → Prop) (l : List α) (u : AV) (M : Own) : Prop :=
  (l = [] ∧ u = .nilSlice ∧ M = []) ∨ ∃ (b : Nat) (c : Cap) (cells : List AV) (e : Nat), u = .slice b 0 l.length c ∧ M = [(b, .row cells e false)] ∧ cells.length = l.length * m ∧ (∀ (i : Nat) (x : α), l[i]? = some x → R x ((cells.drop (i * m)).take m)) ∧ (c = .known l.length ∨ (c = .upto m ∧ e = E)) ∧ l.length ≤ 1048576
inductive OwnSs {α : Type} (m E : Nat) (R : α → List AV → Prop) : List (List α) → List AV → Own → Prop
  | nil : OwnSs m E R [] [] []
  | snoc {ls : List (List α)} {us : List AV} {M M1 : Own} {l : List α} {u : AV} : OwnSs m E R ls us M → OwnS m E R l u M1 → OwnSs m E R (ls ++ [l]) (us ++ [u]) (M1 ++ M)
section
variable {α : Type} {m E : Nat} {R : α → List AV → Prop} {l : List α} {u : AV} {M : Own} {K : KP} {ls : List (List α)} {us : List AV}
theorem OwnS.leaf (h : OwnS m E R l u M) : cellsA u = some [u] ∧ leafB u = true := by
  rcases h with ⟨_, rfl, _⟩ | ⟨b, c, cells, e, rfl, _⟩ <;> exact ⟨rfl, rfl⟩
theorem OwnS.hasS (h : OwnS m E R l u M) (hk : ∀ e ∈ M, K e.1 e.2) : HasS K m R l u := by
  rcases h with ⟨h1, h2, _⟩ | ⟨b, c, cells, e, rfl, rfl, h3, h4, h5, h6⟩
  · exact .inl ⟨h1, h2⟩
  · refine .inr ⟨b, 0, c, cells, e, false, rfl, ?_, hk _ (List.mem_cons_self ..), by omega, by omega, fun i x hx => by simp_all⟩
    rcases h5 with h5 | h5
    · exact .inr ⟨_, h5, Nat.le_refl _⟩
    · exact .inl h5.1
theorem OwnSs.length (h : OwnSs m E R ls us M) : us.length = ls.length := by
  induction h with
  | nil => rfl
  | snoc _ _ ih => simp [ih]
theorem OwnSs.at (h : OwnSs m E R ls us M) : ∀ {i : Nat} {l : List α}, ls[i]? = some l → ∃ u M1 A B, us[i]? = some u ∧ OwnS m E R l u M1 ∧ M = A ++ (M1 ++ B) ∧ ∀ l' u' M1', OwnS m E R l' u' M1' → OwnSs m E R (ls.set i l') (us.set i u') (A ++ (M1' ++ B)) := by
  induction h with
  | nil => simp_all
  | @snoc ls us M M1 l u h h1 ih =>
    intro i x hx
    have hl := h.length
    by_cases hi : i < ls.length
    · rw [List.getElem?_append_left hi] at hx
      obtain ⟨u0, M0, A, B, k1, k2, rfl, k4⟩ := ih hx
      refine ⟨u0, M0, M1 ++ A, B, by grind, k2, by simp, fun l' u' M' h' => ?_⟩
      rw [List.set_append_left _ _ hi, List.set_append_left _ _ (by omega), List.append_assoc]
      exact .snoc (k4 l' u' M' h') h1
    · have hlt := (List.getElem?_eq_some_iff.1 hx).1
      rw [List.length_append, List.length_singleton] at hlt
      obtain rfl : i = ls.length := by omega
      rw [List.getElem?_append_right (Nat.le_refl _), Nat.sub_self] at hx
      simp only [List.getElem?_cons_zero, Option.some.injEq] at hx
      subst hx
      refine ⟨u, M1, [], M, by simp_all, h1, rfl, fun l' u' M' h' => ?_⟩
      rw [List.set_append_right _ _ (Nat.le_refl _), List.set_append_right _ _ (by omega), hl, Nat.sub_self]
      exact OwnSs.snoc (M1 := M') (M := M) h h'
theorem OwnSs.each (h : OwnSs m E R ls us M) (hk : ∀ e ∈ M, K e.1 e.2) : ∀ (i : Nat) (l : List α), ls[i]? = some l → ∃ u, us[i]? = some u ∧ HasS K m R l u := by
  intro i l hl
  obtain ⟨u, M1, A, B, h1, h2, rfl, _⟩ := h.at hl
  exact ⟨u, h1, h2.hasS fun e he => hk e (by simp [he])⟩
theorem OwnSs.hasS (h : OwnSs m E R ls us M) (hk : ∀ e ∈ M, K e.1 e.2) {b e n : Nat} (hb : K b (.row us e false)) (hn : n = ls.length) (hl : ls.length ≤ 1048576) : HasS K 1 (RL K m R) ls (.slice b 0 n (.known n)) := by
  subst hn
  refine .inr ⟨b, 0, _, us, e, false, rfl, .inr ⟨_, rfl, Nat.le_refl _⟩, hb, by rw [h.length]; omega, by omega, fun i x hx => ?_⟩
  obtain ⟨u, h1, h2⟩ := h.each hk i x hx
  refine ⟨u, ?_, h2⟩
  obtain ⟨hlt, rfl⟩ := List.getElem?_eq_some_iff.1 h1
  grind [List.drop_eq_getElem_cons]
end
section
variable {σ : AHeap} {K : KP} {L M : Own} {b : Nat} {o : AObj}
theorem St.setMid (h : St σ K (M ++ (b, o) :: L)) (o' : AObj) : St (σ.setObj b o') K (M ++ (b, o') :: L) := ((h.perm List.perm_middle).set0 o').perm List.perm_middle.symm
end
section
variable {P : Program} {G : Cx} {ev : Operand → Option AV} {σ : AHeap}
end
theorem RInt.leaf : ∀ x vs, RInt x vs → allLeaf vs = true := fun _ _ h => by cases h; rfl
theorem REv.leaf : ∀ x vs, REv x vs → allLeaf vs = true := fun _ _ h => by cases h; rfl
theorem RId.leaf : ∀ x vs, RId x vs → allLeaf vs = true := fun _ _ h => by cases h; rfl
end Go.Ev
namespace Go.Ev
variable [Env]
inductive OwnPut (b : Nat) (o' : AObj) : Own → Own → Prop
  | here {o : AObj} {L : Own} : OwnPut b o' ((b, o) :: L) ((b, o') :: L)
  | there {x : Nat × AObj} {L L' : Own} : OwnPut b o' L L' → OwnPut b o' (x :: L) (x :: L')
  | seg {M L L' : Own} : OwnPut b o' L L' → OwnPut b o' (M ++ L) (M ++ L')
section
variable {σ : AHeap} {K : KP} {L L' : Own} {b : Nat} {o' : AObj}
theorem OwnPut.mid (h : OwnPut b o' L L') : ∃ A B o, L = A ++ (b, o) :: B ∧ L' = A ++ (b, o') :: B := by
  induction h with
  | here => exact ⟨[], _, _, rfl, rfl⟩
  | @there x L L' h ih => grind
  | @seg M L L' h ih => grind
theorem St.upd (h : St σ K L) (hu : OwnPut b o' L L') : St (σ.setObj b o') K L' := by
  obtain ⟨A, B, o, rfl, rfl⟩ := hu.mid
  exact h.setMid o'
theorem St.sub (h : St σ K L) (hs : L'.Sublist L) : St σ K L' where
  kept b o hb := let ⟨h1, h2, h3⟩ := h.kept b o hb; ⟨h1, h2, fun e he => h3 e (hs.subset he)⟩
  own e he := h.own e (hs.subset he)
  ne := h.ne.sublist hs
theorem sub_seg {M L L' : Own} (h : L'.Sublist L) : (M ++ L').Sublist (M ++ L) := (List.append_sublist_append_left M).2 h
end
section
variable {P : Program} {G : Cx} {n : Nat} {t : PT AV} {σ : AHeap} {K : KP} {L : Own} {Q : Ex → PT AV → AHeap → Prop} {ops : Array Oper} {o : Oper} {l : List Oper} {i : Nat} {rc : List Nat} {lp : List (Nat × List Nat)}
theorem o_setU {b : Nat} {ob' : AObj} {L' : Own} {t' : PT AV} (hs : St σ K L) (hu : OwnPut b ob' L L') (hw : wantedA ops t o = some true) (hv : opX P G (evalT G t) σ o.op = .skip (σ.setObj b ob')) (hp : putT t n o.dst unit = some t')
    (h : ∀ σ', St σ' K L' → EvOps P G ops n l t' σ' Q) : EvOps P G ops n (o :: l) t σ Q := evOps_skip hw hv hp (h _ (hs.upd hu))
theorem p_setU {b : Nat} {ob' : AObj} {L' : Own} {t' : PT AV} (hs : St σ K L) (hu : OwnPut b ob' L L') (hi0 : ops[i]? = some o) (hw : wantedA ops t o = some true) (hv : opX P G (evalT G t) σ o.op = .skip (σ.setObj b ob')) (hp : putT t n o.dst unit = some t')
    (h : ∀ σ', St σ' K L' → (stillAll P G ops t' σ' rc = true ∧ EvPlan P G ops n lp t' σ' Q)) : EvPlan P G ops n ((i, rc) :: lp) t σ Q := evPlan_skipR hi0 hw hv hp (h _ (hs.upd hu))
end
section
variable {P : Program} {t : PT AV} {σ : AHeap}
theorem results_cell1 {fn : Func} {j ty b m e : Nat} {ro : Bool} {cells : List AV} (hr : fn.results.toList = [.cell j ty]) (h1 : t.get j = some (.ptr b 0)) (hm : σ.m.get b = some (.row cells e ro)) (ha : aggOf P ty = some (some m)) (hn : cells.length = m) : resultsA P fn t σ = some (.agg cells) := by
  unfold resultsA
  rw [hr]
  have e1 : resultA P t σ (.cell j ty) = some (AV.agg cells) := by
    show (match t.get (posOf j) with
      | some (.ptr b off) => match σ.m.get b with
        | some (.row cells _ _) => match aggOf P ty with
          | some (some n) => bif Nat.ble (off + n) (lenN cells) then some (AV.agg (takeN (dropN cells off) n)) else none
          | some none => nth cells off
          | none => none
        | _ => none
      | _ => none) = _
    rw [show t.get (posOf j) = some (.ptr b 0) from h1]
    dsimp only
    rw [hm]
    dsimp only
    rw [ha]
    dsimp only
    rw [lenN_eq, hn, Nat.zero_add, show Nat.ble m m = true by simp_all, takeN_eq, dropN_eq, List.drop_zero, ← hn, List.take_length]
    rfl
  have : allSome (resultA P t σ) [.cell j ty] = some [AV.agg cells] := by
    unfold allSome
    simp only [e1]
  rw [this]
theorem end_cell1 {fn : Func} {R : AV → AHeap → Prop} {j ty b m e : Nat} {ro : Bool} {cells : List AV} (hr : fn.results.toList = [.cell j ty]) (h1 : t.get j = some (.ptr b 0)) (hm : σ.m.get b = some (.row cells e ro)) (ha : aggOf P ty = some (some m)) (hn : cells.length = m) (hR : R (.agg cells) σ) : endQ P fn R .ret t σ :=
  ⟨.inr rfl, _, results_cell1 hr h1 hm ha hn, hR⟩
end
end Go.Ev
namespace Go.Ev
variable [Env]
theorem ownS_app {α : Type} {m E : Nat} {R : α → List AV → Prop} {l1 l2 : List α} {cells1 news : List AV} {b e : Nat} {c : Cap} {n : Nat} (hc1 : cells1.length = l1.length * m) (h1 : ∀ (i : Nat) (x : α), l1[i]? = some x → R x ((cells1.drop (i * m)).take m)) (hl2 : news.length = l2.length * m) (h2 : ∀ (i : Nat) (x : α), l2[i]? = some x → R x ((news.drop (i * m)).take m))
    (hn : n = l1.length + l2.length) (hc : c = .known n ∨ (c = .upto m ∧ e = E)) (hle : n ≤ 1048576) : OwnS m E R (l1 ++ l2) (.slice b 0 n c) [(b, .row (cells1 ++ news) e false)] := by
  subst hn
  refine .inr ⟨b, c, _, e, by simp_all, rfl, by grind, fun i x hx => ?_, by simp_all, by simp_all⟩
  by_cases hi : i < l1.length
  · rw [List.getElem?_append_left hi] at hx
    have hle : (i + 1) * m ≤ l1.length * m := Nat.mul_le_mul_right _ hi
    grind
  grind [Nat.mul_le_mul_right, List.drop_append, List.drop_eq_nil_of_le, Nat.sub_mul]
def writesG (g : XG) (loc : Int) : List XId :=
  bif eqI (checkI g) 0 then (bif ltI loc 0 then [] else match g.order[loc.toNat]? with | some l => ⟨0, loc⟩ :: l | none => []) else []
theorem writesG_none {g : XG} {loc : Int} (h : eqI (checkI g) 0 = false) : writesG g loc = [] := by unfold writesG; rw [h]; rfl
theorem writesG_neg {g : XG} {loc : Int} (h : ltI loc 0 = true) : writesG g loc = [] := by unfold writesG; simp_all
theorem writesG_big {g : XG} {loc : Nat} (h : g.order.length ≤ loc) : writesG g (.ofNat loc) = [] := by
  unfold writesG
  simp_all
theorem writesG_at {g : XG} {loc : Nat} {l : List XId} (hc : eqI (checkI g) 0 = true) (h : g.order[loc]? = some l) : writesG g (.ofNat loc) = ⟨0, .ofNat loc⟩ :: l := by
  have e : (Int.ofNat loc).toNat = loc := rfl
  have e2 : ltI (.ofNat loc) 0 = false := by rw [show (0 : Int) = .ofNat 0 from rfl, ltI_nat]; simp
  unfold writesG
  simp_all
end Go.Ev
namespace Go.Ev
variable [Env]
theorem x_min {P : Program} {G : Cx} {ev : Operand → Option AV} {σ : AHeap} {c : Call} {x y : Operand} {a b : Int} {k : IntKind} (hc : c.callee = .builtin .min) (ha : c.args.toList = [x, y]) (hx : ev x = some (.int k a)) (hy : ev y = some (.int k b)) : opX P G ev σ (.call c) = .val (.int k (bif ltI b a then b else a)) σ := by
  refine x_pure (by simp [kindOf, hc]) ?_
  have e : eqK k k = true := by cases k <;> rfl
  simp only [pureA, hc, ha, hx, hy, minI, e, cond_true]
section
variable {P : Program} {G : Cx}
def EvIn (P : Program) (G : Cx) (f : Nat) (args : List AV) (σ : AHeap) (R : AV → AHeap → Prop) : Prop :=
  ∃ (K : Nat) (v : AV) (σ' : AHeap), (∀ k, K ≤ k → callC P G (runX P G k) f args σ = .ret v σ') ∧ R v σ'
end
section
variable {P : Program} {G : Cx} {ev : Operand → Option AV} {σ : AHeap}
theorem bnd_hi {hi : Operand} {k : IntKind} {h' len cap : Nat} (h : ev hi = some (.int k (.ofNat h'))) (hl : h' ≤ cap) : boundsA ev len cap none (some hi) = some (0, h') := by
  simp only [boundsA, boundA, h, show Nat.ble h' cap = true by simp_all, cond_true]
theorem x_sliceK {t e sz b off len cap l h : Nat} {x : Operand} {lo hi : Option Operand} (ht : P.underlying t = some (.slice e)) (hj : (P.info? e).map (·.size) = some sz) (hx : ev x = some (.slice b off len (.known cap))) (hb : boundsA ev len cap lo hi = some (l, h)) (hl : l < cap) :
    opX P G ev σ (.slice t x lo hi none) = .val (.slice b (off + l * sz) (h - l) (.known (cap - l))) σ := by
  refine x_pure rfl ?_
  obtain ⟨j, hj', rfl⟩ := Option.map_eq_some_iff.1 hj
  have : Nat.beq cap l = false := by
    grind [Nat.eq_of_beq_eq_true]
  simp only [pureA, sliceA, ht, hx, cutAt, hb, cut, hj', this, cond_false]
theorem x_sliceU {t e sz b off len l h : Nat} {x : Operand} {lo hi : Option Operand} (ht : P.underlying t = some (.slice e)) (hj : (P.info? e).map (·.size) = some sz) (hx : ev x = some (.slice b off len (.upto sz))) (hb : boundsA ev len len lo hi = some (l, h)) :
    opX P G ev σ (.slice t x lo hi none) = .val (.slice b (off + l * sz) (h - l) (.upto sz)) σ := by
  refine x_pure rfl ?_
  obtain ⟨j, hj', rfl⟩ := Option.map_eq_some_iff.1 hj
  simp only [pureA, sliceA, ht, hx, hb, hj', Nat.beq_refl, cond_true]
end
section
variable {P : Program} {G : Cx} {ev : Operand → Option AV} {σ : AHeap}
end
section
variable {P : Program} {G : Cx} {n : Nat} {t : PT AV} {σ : AHeap} {K : KP} {L : Own} {Q : Ex → PT AV → AHeap → Prop} {ops : Array Oper} {o : Oper} {l : List Oper}
end
section
variable {P : Program} {G : Cx} {σ : AHeap} {K : KP} {L : Own}
theorem x_appendN {α : Type} {m e : Nat} {R : α → List AV → Prop} {l2 : List α} {v2 : AV} {ts : Array TypeId} {t : TypeId} (hs : St σ K L) (hx : HasS K m R l2 v2) (hleaf : ∀ x vs, R x vs → allLeaf vs = true) (hn : l2.length ≤ 1048576) (hpos : 1 ≤ l2.length)
    (ht : ts[0]? = some t) (hu : P.underlying t = some (.slice e)) (ha : appT P e m = true) (h2 : sliceOrStr P ts[1]? = true) :
    ∃ news, appendA P σ ts .nilSlice v2 = .val (.slice σ.next 0 l2.length (.upto m)) (σ.alloc (.row news e false)) ∧ news.length = l2.length * m ∧ ∀ (i : Nat) (x : α), l2[i]? = some x → R x ((news.drop (i * m)).take m) := by
  obtain ⟨news, s1, s2, s3, s4⟩ := source_of hs hx hleaf
  refine ⟨news, ?_, s2, s4⟩
  unfold appT at ha
  split at ha
  · rename_i j hj
    simp only [Bool.and_eq_true] at ha
    obtain ⟨a1, a2, a3, a4⟩ := ha
    have hm : j.size = m := Nat.eq_of_beq_eq_true a1
    subst hm
    have hz : ((P.info? e).any fun j => (j.zero.bind ofVal).any fun z => (cellsA z).any fun cs => Nat.beq (lenN cs) j.size) = true := by rw [hj]; exact a4
    have h0 : Nat.beq l2.length 0 = false := by
      grind [Nat.eq_of_beq_eq_true]
    unfold appendA
    rw [ht]
    dsimp only
    rw [hu]
    dsimp only
    rw [hj] at hz ⊢
    dsimp only
    rw [h2, a2, a3]
    simp only [Bool.and_self, cond_true]
    rw [s1]
    dsimp only
    rw [s3, show Nat.ble l2.length 1048576 = true by simp_all, hz]
    simp only [Bool.and_self, cond_true, h0, cond_false]
    rfl
  · cases ha
end
section
variable {P : Program} {G : Cx} {n : Nat} {t : PT AV} {σ : AHeap} {K : KP} {L : Own} {Q : Ex → PT AV → AHeap → Prop} {ops : Array Oper} {o : Oper} {l : List Oper}
end
section
variable {σ : AHeap} {K : KP} {L : Own} {b : Nat} {o : AObj}
def KP.sub (K : KP) (b : Nat) : KP := fun b' o' => K b' o' ∧ b' ≠ b
theorem St.two {b b' : Nat} {o o' o1 o1' : AObj} (hb : b < σ.next) (hb' : b' < σ.next) (hne : b ≠ b') : St (twoBlocks σ b o b' o') (fun _ _ => False) [(b, o), (b', o')] where
  kept _ _ h := h.elim
  own e he := by
    rcases List.mem_cons.1 he with rfl | he
    · exact ⟨hb, by show ((PT.leaf.put (some o) b).put (some o') b').get b = _; grind [PT.get_put_other, PT.get_put_same]⟩
    · rcases List.mem_cons.1 he with rfl | he
      · exact ⟨hb', PT.get_put_same _ _ _⟩
      · cases he
  ne := List.pairwise_cons.2 ⟨fun e he => (by simp_all), List.pairwise_singleton ..⟩
end
inductive OwnIn (X : Own) : Own → Own → Prop
  | here {L : Own} : OwnIn X (X ++ L) L
  | there {y : Nat × AObj} {L L0 : Own} : OwnIn X L L0 → OwnIn X (y :: L) (y :: L0)
  | seg {M L L0 : Own} : OwnIn X L L0 → OwnIn X (M ++ L) (M ++ L0)
theorem OwnIn.perm {X L L0 : Own} (h : OwnIn X L L0) : L.Perm (X ++ L0) := by
  induction h with
  | here => simp_all
  | @there y L L0 _ ih => exact (List.Perm.cons y ih).trans List.perm_middle.symm
  | @seg M L L0 _ ih =>
    refine (List.Perm.append_left M ih).trans ?_
    grind [List.Perm.append_right, List.perm_append_comm]
section
variable {σ : AHeap} {K : KP} {L L0 X : Own}
theorem St.pull (h : St σ K L) (hi : OwnIn X L L0) : St σ K (X ++ L0) := h.perm hi.perm
theorem St.push (h : St σ K (X ++ L0)) (hi : OwnIn X L L0) : St σ K L := h.perm hi.perm.symm
end
def growG (g : XG) (tm : Nat) (e : XEv) (fr : XId) (pl : Nat) (row : List XEv) (frow : List XId) (orow : List XId) (loc : Nat) : XG :=
  { init := g.init, threads := g.threads.set tm (row ++ [e]), from_ := g.from_.set tm (frow ++ [fr]), order := bif writesB e then g.order.set loc (orow.take pl ++ ⟨.ofNat (tm + 1), .ofNat row.length⟩ :: orow.drop pl) else g.order }
def addG (g : XG) (th : Int) (e : XEv) (fr : XId) (pl : Int) : Option XG × Int :=
  bif !eqI (checkI g) 0 then (none, 2) else
  bif ltI th 1 then (none, 9) else
  bif ltI (.ofNat g.threads.length) th then (none, 9) else
  match g.threads[th.toNat - 1]?, g.from_[th.toNat - 1]? with
  | some row, some frow =>
    bif !ltI (.ofNat row.length) 14 then (none, 3) else
    bif (bif writesB e then (bif ltI pl 1 then true else ltI (.ofNat (writesG g e.loc).length) pl) else !eqI pl 0) then (none, 2) else
    let g' := growG g (th.toNat - 1) e fr (pl.toNat - 1) row frow ((g.order[e.loc.toNat]?).getD []) e.loc.toNat
    bif eqI (checkI g') 0 then (some g', 0) else (none, 2)
  | _, _ => (none, 9)
theorem pos_of {n : Int} (h : ltI n 1 = false) : ∃ m : Nat, n = .ofNat (m + 1) := by
  cases n with
  | negSucc k => cases h
  | ofNat k =>
    have : 1 ≤ k := lt_no (a := k) (b := 1) h
    exact ⟨k - 1, by simp_all⟩
end Go.Ev
namespace Go.Ev
variable [Env]
end Go.Ev
namespace Go.Ev
variable [Env]
theorem addG_chk {g : XG} {th pl : Int} {e : XEv} {fr : XId} (h : eqI (checkI g) 0 = false) : addG g th e fr pl = (none, 2) := by unfold addG; rw [h]; rfl
theorem addG_low {g : XG} {th pl : Int} {e : XEv} {fr : XId} (h : eqI (checkI g) 0 = true) (h1 : ltI th 1 = true) : addG g th e fr pl = (none, 9) := by unfold addG; rw [h, h1]; rfl
theorem addG_big {g : XG} {th pl : Int} {e : XEv} {fr : XId} (h : eqI (checkI g) 0 = true) (h1 : ltI th 1 = false) (h2 : ltI (.ofNat g.threads.length) th = true) : addG g th e fr pl = (none, 9) := by unfold addG; rw [h, h1, h2]; rfl
def badPlace (g : XG) (e : XEv) (pl : Int) : Bool := bif writesB e then (bif ltI pl 1 then true else ltI (.ofNat (writesG g e.loc).length) pl) else !eqI pl 0
def grownG (g : XG) (tm : Nat) (e : XEv) (fr : XId) (pl : Int) (row : List XEv) (frow : List XId) : XG := growG g tm e fr (pl.toNat - 1) row frow ((g.order[e.loc.toNat]?).getD []) e.loc.toNat
theorem addG_at {g : XG} {tm : Nat} {pl : Int} {e : XEv} {fr : XId} {row : List XEv} {frow : List XId} (h : eqI (checkI g) 0 = true) (hx : g.threads[tm]? = some row) (hf : g.from_[tm]? = some frow) :
    addG g (.ofNat (tm + 1)) e fr pl = bif !ltI (.ofNat row.length) 14 then (none, 3) else bif badPlace g e pl then (none, 2) else bif eqI (checkI (grownG g tm e fr pl row frow)) 0 then (some (grownG g tm e fr pl row frow), 0) else (none, 2) := by
  have hlt : tm < g.threads.length := (List.getElem?_eq_some_iff.1 hx).1
  have h1 : ltI (.ofNat (tm + 1)) 1 = false := by rw [show (1 : Int) = .ofNat 1 from rfl, ltI_nat]; simp
  have h2 : ltI (.ofNat g.threads.length) (.ofNat (tm + 1)) = false := by rw [ltI_nat]; simp; omega
  have e1 : (Int.ofNat (tm + 1)).toNat - 1 = tm := rfl
  unfold addG
  rw [h, h1, h2]
  simp only [Bool.not_true, cond_false, e1, hx, hf]
  rfl
end Go.Ev
namespace Go.Ev
variable [Env]
theorem writes_pos {g : XG} {loc : Int} (h : 1 ≤ (writesG g loc).length) : ∃ (ln : Nat) (r : List XId), loc = .ofNat ln ∧ g.order[ln]? = some r ∧ (writesG g loc).length = r.length + 1 := by
  cases hc : eqI (checkI g) 0 with
  | false => rw [writesG_none hc] at h; cases h
  | true =>
    cases hl : ltI loc 0 with
    | true => rw [writesG_neg hl] at h; cases h
    | false =>
      obtain ⟨ln, rfl⟩ := nat_of hl
      cases hr : g.order[ln]? with
      | none =>
        grind [writesG_big]
      | some r => exact ⟨ln, r, rfl, hr, by rw [writesG_at hc hr]; rfl⟩
section
variable {σ σ0 : AHeap} {K : KP} {L M : Own}
theorem St.unkeeps (h0 : St σ0 K (M ++ L)) (h : St σ (K.adds M) L) : St σ K (M ++ L) where
  kept b o hb := by
    obtain ⟨h1, h2, h3⟩ := h.kept b o (.inl hb)
    refine ⟨h1, h2, fun e he => ?_⟩
    rcases List.mem_append.1 he with he | he
    · exact (h0.kept b o hb).2.2 e (List.mem_append_left _ he)
    · exact h3 e he
  own e he := by
    rcases List.mem_append.1 he with he | he
    · exact ⟨(h.kept e.1 e.2 (.inr he)).1, (h.kept e.1 e.2 (.inr he)).2.1⟩
    · exact h.own e he
  ne := h0.ne
end
end Go.Ev
namespace Go.Ev
variable [Env]
inductive OwnApp : Own → Own → Own → Prop
  | base {L : Own} : OwnApp L [] L
  | there {x : Nat × AObj} {LL M L : Own} : OwnApp LL M L → OwnApp (x :: LL) (x :: M) L
  | seg {A LL M L : Own} : OwnApp LL M L → OwnApp (A ++ LL) (A ++ M) L
theorem OwnApp.eq {LL M L : Own} (h : OwnApp LL M L) : LL = M ++ L := by
  induction h with
  | base => rfl
  | there _ ih => rw [ih]; rfl
  | seg _ ih => simp_all
theorem St.app {σ : AHeap} {K : KP} {LL M L : Own} (h : St σ K LL) (ha : OwnApp LL M L) : St σ K (M ++ L) := by rw [← ha.eq]; exact h
theorem grown_w {g : XG} {tm ln pm : Nat} {e : XEv} {fr : XId} {row : List XEv} {frow orow : List XId} (hw : writesB e = true) (hl : e.loc = .ofNat ln) (ho : g.order[ln]? = some orow) :
    grownG g tm e fr (.ofNat (pm + 1)) row frow = { init := g.init, threads := g.threads.set tm (row ++ [e]), from_ := g.from_.set tm (frow ++ [fr]), order := g.order.set ln (orow.take pm ++ ⟨.ofNat (tm + 1), .ofNat row.length⟩ :: orow.drop pm) } := by
  have e1 : (Int.ofNat (pm + 1)).toNat - 1 = pm := rfl
  have e2 : (Int.ofNat ln).toNat = ln := rfl
  unfold grownG growG
  simp_all
theorem ltI_self (x : Int) : ltI x x = false := by
  cases x with
  | ofNat n => rw [ltI_nat]; simp
  | negSucc n =>
    cases h : ltI (.negSucc n) (.negSucc n) with
    | false => rfl
    | true =>
      have : Nat.blt n n = true := h
      simp_all
theorem cmpZ_self (x : Int) : cmpZ x x = 0 := by unfold cmpZ; rw [ltI_self]; rfl
theorem cmpL_self {α : Type} {c : α → α → Int} (h : ∀ x, c x x = 0) : ∀ l, cmpL c l l = 0
  | [] => rfl
  | x :: l => by
    show (bif eqI (c x x) 0 then cmpL c l l else c x x) = 0
    rw [h x]
    exact cmpL_self h l
theorem fnz_zero : ∀ (l : List Int), (∀ x ∈ l, x = 0) → fnz l = 0
  | [], _ => rfl
  | x :: l, h => by
    show (bif eqI x 0 then fnz l else x) = 0
    rw [h x (List.mem_cons_self ..)]
    exact fnz_zero l fun y hy => h y (List.mem_cons_of_mem _ hy)
theorem cmpId_self (x : XId) : cmpId x x = 0 := fnz_zero _ fun y hy => by simp only [cmpZ_self, List.mem_cons, List.not_mem_nil, or_false, or_self] at hy; exact hy
theorem cmpEv_self (x : XEv) : cmpEv x x = 0 := fnz_zero _ fun y hy => by simp only [cmpZ_self, List.mem_cons, List.not_mem_nil, or_false, or_self] at hy; exact hy
theorem cmpLen_self {α : Type} (l : List α) : cmpLen l l = 0 := cmpZ_self _
theorem cmpIds_self (l : List XId) : cmpIds l l = 0 := fnz_zero _ fun y hy => by simp only [cmpLen_self, cmpL_self cmpId_self, List.mem_cons, List.not_mem_nil, or_false, or_self] at hy; exact hy
theorem cmpG_self (g : XG) : cmpG g g = 0 := fnz_zero _ fun y hy => by
  simp only [cmpLen_self, cmpL_self cmpIds_self, cmpL_self (c := cmpLen) cmpLen_self, cmpL_self (cmpL_self cmpEv_self), cmpL_self cmpZ_self, List.mem_cons, List.not_mem_nil, or_false, or_self] at hy
  exact hy
theorem evAt_init {g : XG} {i : Nat} : evAt g ⟨.ofNat 0, .ofNat i⟩ = (g.init[i]?).map fun v => ⟨2, i, 1, 0, v⟩ := rfl
theorem evAt_row {g : XG} {t i : Nat} : evAt g ⟨.ofNat (t + 1), .ofNat i⟩ = (g.threads[t]?).bind (·[i]?) := rfl
theorem evAt_old {g g' : XG} {tm : Nat} {row : List XEv} {e w : XEv} {id : XId} (hr : g.threads[tm]? = some row) (hi : g'.init = g.init) (ht : g'.threads = g.threads.set tm (row ++ [e])) (h : evAt g id = some w) : evAt g' id = some w := by
  obtain ⟨th, ix⟩ := id
  cases ix with
  | negSucc k => rw [evAt_neg2 (by rw [ltI_eq]; simp)] at h; cases h
  | ofNat i =>
    cases th with
    | negSucc k => rw [evAt_neg1 (by rw [ltI_eq]; simp)] at h; cases h
    | ofNat t =>
      cases t with
      | zero => rw [evAt_init] at h ⊢; rw [hi]; exact h
      | succ t =>
        rw [evAt_row] at h ⊢
        grind
theorem evAt_new {g g' : XG} {tm : Nat} {row : List XEv} {e : XEv} (hr : g.threads[tm]? = some row) (ht : g'.threads = g.threads.set tm (row ++ [e])) : evAt g' ⟨.ofNat (tm + 1), .ofNat row.length⟩ = some e := by
  have hlt : tm < g.threads.length := (List.getElem?_eq_some_iff.1 hr).1
  rw [evAt_row, ht, List.getElem?_set, if_pos rfl, if_pos hlt]
  simp_all
def wrRow (t : Nat) : List XEv → Nat → LM
  | [], _ => []
  | e :: l, n => bif writesB e then ([.ofNat (t + 1), .ofNat n], e.loc) :: wrRow t l (n + 1) else wrRow t l (n + 1)
def wrAll : List (List XEv) → Nat → LM
  | [], _ => []
  | l :: r, t => wrRow t l 0 ++ wrAll r (t + 1)
theorem lmAt_none {k : List Int} : ∀ {m : LM} {i : Nat}, (∀ p ∈ m, p.1 ≠ k) → lmAt m k i = none
  | [], _, _ => rfl
  | (k', v) :: m, i, h => by
    show (bif sameX k k' then some (i, v) else lmAt m k (i + 1)) = none
    have : sameX k k' = false := by
      cases hh : sameX k k' with
      | false => rfl
      | true => exact absurd (sameX_iff.1 hh).symm (h (k', v) (List.mem_cons_self ..))
    rw [this]
    exact lmAt_none fun p hp => h p (List.mem_cons_of_mem _ hp)
theorem insL_app {t : Nat} : ∀ {l : List XEv} {n : Nat} {m : LM}, (∀ p ∈ m, ∀ k, n ≤ k → p.1 ≠ [.ofNat (t + 1), .ofNat k]) → insL t l n m = m ++ wrRow t l n
  | [], _, m, _ => by simp [insL, wrRow]
  | e :: l, n, m, h => by
    show insL t l (n + 1) (insE t m n e) = m ++ (bif writesB e then _ else _)
    unfold insE
    cases hw : writesB e with
    | false => exact insL_app fun p hp k hk => h p hp k (by omega)
    | true =>
      show insL t l (n + 1) (lmPut m [.ofNat (t + 1), .ofNat n] e.loc) = m ++ _
      have hp : lmPut m [.ofNat (t + 1), .ofNat n] e.loc = m ++ [([.ofNat (t + 1), .ofNat n], e.loc)] := by
        unfold lmPut
        rw [lmAt_none fun p hp => h p hp n (Nat.le_refl _)]
      rw [hp, insL_app (l := l) (n := n + 1) fun p hp k hk => ?_, List.append_assoc]
      · rfl
      grind
theorem wrRow_key {t : Nat} : ∀ {l : List XEv} {n : Nat}, ∀ p ∈ wrRow t l n, ∃ k, p.1 = [.ofNat (t + 1), .ofNat k] ∧ n ≤ k
  | [], _, p, h => by cases h
  | e :: l, n, p, h => by
    have h' : p ∈ (bif writesB e then ([.ofNat (t + 1), .ofNat n], e.loc) :: wrRow t l (n + 1) else wrRow t l (n + 1)) := h
    cases hw : writesB e with
    | false =>
      rw [hw] at h'
      obtain ⟨k, h1, h2⟩ := wrRow_key (l := l) p h'
      exact ⟨k, h1, by omega⟩
    | true =>
      rw [hw] at h'
      rcases List.mem_cons.1 h' with rfl | h'
      · exact ⟨n, rfl, Nat.le_refl _⟩
      · obtain ⟨k, h1, h2⟩ := wrRow_key (l := l) p h'
        exact ⟨k, h1, by omega⟩
theorem insT_app : ∀ {ls : List (List XEv)} {t : Nat} {m : LM}, (∀ p ∈ m, ∀ s k, t ≤ s → p.1 ≠ [.ofNat (s + 1), .ofNat k]) → insT ls t m = m ++ wrAll ls t
  | [], _, m, _ => by simp [insT, wrAll]
  | l :: ls, t, m, h => by
    show insT ls (t + 1) (insL t l 0 m) = m ++ (wrRow t l 0 ++ wrAll ls (t + 1))
    rw [insL_app fun p hp k _ => h p hp t k (Nat.le_refl _), insT_app (ls := ls) (t := t + 1) fun p hp s k hs => ?_, List.append_assoc]
    rcases List.mem_append.1 hp with hp | hp
    · grind
    · obtain ⟨k', h1, _⟩ := wrRow_key p hp
      grind
theorem insT_writes {ls : List (List XEv)} : insT ls 0 [] = wrAll ls 0 := by
  rw [insT_app fun p hp => by cases hp]; rfl
def ordRow (loc : Nat) (l : List XId) : LM := l.map fun id => (id.ints, .ofNat loc)
def ordL : List (List XId) → Nat → LM
  | [], _ => []
  | r :: ls, loc => ordRow loc r ++ ordL ls (loc + 1)
theorem eraseIdx_perm {α : Type} : ∀ {m : List α} {j : Nat} {x : α}, m[j]? = some x → m.Perm (x :: m.eraseIdx j)
  | [], _, _, h => by simp at h
  | y :: m, 0, x, h => by
    have : y = x := by simpa using h
    subst this; exact List.Perm.refl _
  | y :: m, j + 1, x, h => by
    have h' : m[j]? = some x := by simpa using h
    exact (List.Perm.cons y (eraseIdx_perm h')).trans (List.Perm.swap x y _)
theorem lmDel_perm {m : LM} {k : List Int} {v : Int} (h : lmGet m k = some v) : m.Perm ((k, v) :: lmDel m k) := by
  unfold lmGet at h
  unfold lmDel
  cases ha : lmAt m k 0 with
  | none => rw [ha] at h; cases h
  | some p =>
    obtain ⟨j, w⟩ := p
    rw [ha] at h
    have hw : w = v := by simpa using h
    subst hw
    exact eraseIdx_perm (lmAt_some ha).2
theorem chkL_perm {loc : Nat} : ∀ {l : List XId} {m m' : LM}, chkL loc l m = some m' → m.Perm (ordRow loc l ++ m')
  | [], m, m', h => by cases h; exact List.Perm.refl _
  | id :: l, m, m', h => by
    have h' : (bif (lmGet m id.ints).isSome then (bif eqI ((lmGet m id.ints).getD 0) (.ofNat loc) then chkL loc l (lmDel m id.ints) else none) else none) = some m' := h
    cases hs : lmGet m id.ints with
    | none => rw [hs] at h'; cases h'
    | some v =>
      rw [hs] at h'
      have h'' : (bif eqI v (.ofNat loc) then chkL loc l (lmDel m id.ints) else none) = some m' := h'
      cases he : eqI v (.ofNat loc) with
      | false => rw [he] at h''; cases h''
      | true =>
        rw [he] at h''
        rw [eqI_eq] at he
        have hv : v = .ofNat loc := of_decide_eq_true he
        subst hv
        exact (lmDel_perm hs).trans (List.Perm.cons _ (chkL_perm (l := l) h''))
theorem chkO_perm : ∀ {ls : List (List XId)} {loc : Nat} {m m' : LM}, chkO ls loc m = some m' → m.Perm (ordL ls loc ++ m')
  | [], _, m, m', h => by cases h; exact List.Perm.refl _
  | r :: ls, loc, m, m', h => by
    have h' : (chkL loc r m).bind (chkO ls (loc + 1)) = some m' := h
    cases hr : chkL loc r m with
    | none => rw [hr] at h'; cases h'
    | some m1 =>
      rw [hr] at h'
      refine (chkL_perm hr).trans ?_
      show (ordRow loc r ++ m1).Perm ((ordRow loc r ++ ordL ls (loc + 1)) ++ m')
      rw [List.append_assoc]
      exact List.Perm.append_left _ (chkO_perm (ls := ls) h')
theorem order_perm {g : XG} (h : rightOrderB g = true) : (wrAll g.threads 0).Perm (ordL g.order 0) := by
  unfold rightOrderB at h
  cases hc : chkO g.order 0 (insT g.threads 0 []) with
  | none => rw [hc] at h; cases h
  | some m =>
    rw [hc] at h
    have h0 : m = [] := by
      have h1 : eqI (.ofNat m.length) (.ofNat 0) = true := h
      rw [eqI_nat] at h1
      simp_all
    have := chkO_perm hc
    rw [h0, List.append_nil, insT_writes] at this
    exact this
theorem lmAt_mem {k : List Int} {v : Int} : ∀ {m : LM} {i : Nat}, (m.map (·.1)).Nodup → (k, v) ∈ m → ∃ j, lmAt m k i = some (j, v)
  | (k', w) :: m, i, hn, h => by
    rw [List.map_cons, List.nodup_cons] at hn
    show ∃ j, (bif sameX k k' then some (i, w) else lmAt m k (i + 1)) = some (j, v)
    rcases List.mem_cons.1 h with h1 | h1
    · cases h1
      rw [sameX_iff.2 rfl]; exact ⟨i, rfl⟩
    · have : sameX k k' = false := by
        cases hh : sameX k k' with
        | false => rfl
        | true =>
          have e := sameX_iff.1 hh
          simp_all
      rw [this]
      exact lmAt_mem (m := m) hn.2 h1
theorem chkL_of {loc : Nat} : ∀ {l : List XId} {m rest : LM}, m.Perm (ordRow loc l ++ rest) → (m.map (·.1)).Nodup → ∃ m', chkL loc l m = some m' ∧ m'.Perm rest ∧ (m'.map (·.1)).Nodup
  | [], m, rest, h, hn => ⟨m, rfl, h, hn⟩
  | id :: l, m, rest, h, hn => by
    have hmem : (id.ints, Int.ofNat loc) ∈ m := h.mem_iff.2 (List.mem_cons_self ..)
    obtain ⟨j, hj⟩ := lmAt_mem (i := 0) hn hmem
    have hg : lmGet m id.ints = some (.ofNat loc) := by unfold lmGet; rw [hj]; rfl
    have hp := lmDel_perm hg
    have hp2 : (lmDel m id.ints).Perm (ordRow loc l ++ rest) := List.Perm.cons_inv (hp.symm.trans h)
    have hn2 : ((lmDel m id.ints).map (·.1)).Nodup := by
      have := (hp.map (·.1)).nodup_iff.1 hn
      rw [List.map_cons, List.nodup_cons] at this
      exact this.2
    obtain ⟨m', h1, h2, h3⟩ := chkL_of (l := l) hp2 hn2
    refine ⟨m', ?_, h2, h3⟩
    show (bif (lmGet m id.ints).isSome then (bif eqI ((lmGet m id.ints).getD 0) (.ofNat loc) then chkL loc l (lmDel m id.ints) else none) else none) = some m'
    have he : eqI (.ofNat loc) (.ofNat loc) = true := by rw [eqI_nat]; simp
    rw [hg]
    show (bif eqI (.ofNat loc) (.ofNat loc) then chkL loc l (lmDel m id.ints) else none) = some m'
    rw [he]; exact h1
theorem chkO_of : ∀ {ls : List (List XId)} {loc : Nat} {m : LM}, m.Perm (ordL ls loc) → (m.map (·.1)).Nodup → chkO ls loc m = some []
  | [], _, m, h, _ => by rw [show m = [] from h.eq_nil]; rfl
  | r :: ls, loc, m, h, hn => by
    obtain ⟨m', h1, h2, h3⟩ := chkL_of (l := r) (rest := ordL ls (loc + 1)) h hn
    show (chkL loc r m).bind (chkO ls (loc + 1)) = some []
    rw [h1]
    exact chkO_of (ls := ls) h2 h3
theorem wrRow_nodup {t : Nat} : ∀ {l : List XEv} {n : Nat}, ((wrRow t l n).map (·.1)).Nodup
  | [], _ => List.nodup_nil
  | e :: l, n => by
    show ((bif writesB e then ([.ofNat (t + 1), .ofNat n], e.loc) :: wrRow t l (n + 1) else wrRow t l (n + 1) : LM).map (·.1)).Nodup
    cases writesB e with
    | false => exact wrRow_nodup (l := l)
    | true =>
      show (([Int.ofNat (t + 1), Int.ofNat n], e.loc).1 :: (wrRow t l (n + 1)).map (·.1)).Nodup
      rw [List.nodup_cons]
      refine ⟨fun h => ?_, wrRow_nodup (l := l)⟩
      obtain ⟨p, hp, he⟩ := List.mem_map.1 h
      obtain ⟨k, h1, h2⟩ := wrRow_key p hp
      grind
theorem wrAll_key : ∀ {ls : List (List XEv)} {t : Nat}, ∀ p ∈ wrAll ls t, ∃ s k, p.1 = [.ofNat (s + 1), .ofNat k] ∧ t ≤ s
  | [], _, p, h => by cases h
  | l :: ls, t, p, h => by
    have h' : p ∈ wrRow t l 0 ++ wrAll ls (t + 1) := h
    rcases List.mem_append.1 h' with h' | h'
    · obtain ⟨k, h1, _⟩ := wrRow_key p h'
      exact ⟨t, k, h1, Nat.le_refl _⟩
    · obtain ⟨s, k, h1, h2⟩ := wrAll_key (ls := ls) p h'
      exact ⟨s, k, h1, by omega⟩
theorem wrAll_nodup : ∀ {ls : List (List XEv)} {t : Nat}, ((wrAll ls t).map (·.1)).Nodup
  | [], _ => List.nodup_nil
  | l :: ls, t => by
    show ((wrRow t l 0 ++ wrAll ls (t + 1)).map (·.1)).Nodup
    rw [List.map_append, List.nodup_append]
    refine ⟨wrRow_nodup, wrAll_nodup (ls := ls), fun a ha b hb hab => ?_⟩
    obtain ⟨p, hp, rfl⟩ := List.mem_map.1 ha
    obtain ⟨q, hq, rfl⟩ := List.mem_map.1 hb
    obtain ⟨k, h1, _⟩ := wrRow_key p hp
    obtain ⟨s, k', h3, h4⟩ := wrAll_key q hq
    grind
theorem rightOrder_iff {g : XG} : rightOrderB g = true ↔ (wrAll g.threads 0).Perm (ordL g.order 0) := by
  refine ⟨order_perm, fun h => ?_⟩
  unfold rightOrderB
  rw [insT_writes, chkO_of h wrAll_nodup]
  rfl
theorem rowB_iff {g : XG} {t : Nat} : ∀ {l : List XEv} {f : List XId} {n : Nat}, f.length = l.length → (rowB g t l f n = true ↔ ∀ i e q, l[i]? = some e → f[i]? = some q → okE g t (n + i) e q = true)
  | [], f, n, h => ⟨fun _ i e q h1 => by simp at h1, fun _ => rfl⟩
  | x :: l, [], n, h => by cases h
  | x :: l, y :: f, n, h => by
    have hl : f.length = l.length := by simpa using h
    show (bif okE g t n x y then rowB g t l f (n + 1) else false) = true ↔ _
    constructor
    · intro hh i e q h1 h2
      cases ho : okE g t n x y with
      | false => rw [ho] at hh; cases hh
      | true =>
        rw [ho] at hh
        cases i with
        | zero =>
          have e1 : x = e := by simpa using h1
          have e2 : y = q := by simpa using h2
          subst e1 e2; exact ho
        | succ i =>
          have := (rowB_iff hl).1 hh i e q (by simpa using h1) (by simpa using h2)
          rwa [show n + 1 + i = n + (i + 1) by omega] at this
    · intro hh
      rw [show okE g t n x y = true from hh 0 x y rfl rfl]
      refine (rowB_iff hl).2 fun i e q h1 h2 => ?_
      have := hh (i + 1) e q (by simpa using h1) (by simpa using h2)
      rwa [show n + (i + 1) = n + 1 + i by omega] at this
theorem rowsB_iff {g : XG} : ∀ {ls : List (List XEv)} {fs : List (List XId)} {t : Nat}, fs.length = ls.length → (rowsB g ls fs t = true ↔ ∀ i l f, ls[i]? = some l → fs[i]? = some f → f.length = l.length ∧ ∀ j e q, l[j]? = some e → f[j]? = some q → okE g (t + i) j e q = true)
  | [], f, n, h => ⟨fun _ i e q h1 => by simp at h1, fun _ => rfl⟩
  | x :: l, [], n, h => by cases h
  | x :: l, y :: f, t, h => by
    have hl : f.length = l.length := by simpa using h
    show (bif eqI (.ofNat y.length) (.ofNat x.length) then (bif rowB g t x y 0 then rowsB g l f (t + 1) else false) else false) = true ↔ _
    constructor
    · intro hh i e q h1 h2
      cases he : eqI (.ofNat y.length) (.ofNat x.length) with
      | false => rw [he] at hh; cases hh
      | true =>
        rw [he] at hh
        cases ho : rowB g t x y 0 with
        | false => rw [ho] at hh; cases hh
        | true =>
          rw [ho] at hh
          cases i with
          | zero =>
            have e1 : x = e := by simpa using h1
            have e2 : y = q := by simpa using h2
            subst e1 e2
            refine ⟨len_of he, fun j w z k1 k2 => ?_⟩
            have := (rowB_iff (len_of he)).1 ho j w z k1 k2
            rwa [Nat.zero_add] at this
          | succ i =>
            have := (rowsB_iff hl).1 hh i e q (by simpa using h1) (by simpa using h2)
            rwa [show t + 1 + i = t + (i + 1) by omega] at this
    · intro hh
      obtain ⟨h1, h2⟩ := hh 0 x y rfl rfl
      rw [show eqI (.ofNat y.length) (.ofNat x.length) = true by rw [eqI_nat]; simp [h1]]
      rw [show rowB g t x y 0 = true from (rowB_iff h1).2 fun i e q k1 k2 => by have := h2 i e q k1 k2; rwa [Nat.zero_add]]
      refine (rowsB_iff hl).2 fun i e q k1 k2 => ?_
      have := hh (i + 1) e q (by simpa using k1) (by simpa using k2)
      rwa [show t + (i + 1) = t + 1 + i by omega] at this
structure Right (g : XG) : Prop where
  threads : g.threads.length ≤ 4
  init : g.init.length ≤ 6
  short : ∀ (i : Nat) (l : List XEv), g.threads[i]? = some l → l.length ≤ 14
  from_ : g.from_.length = g.threads.length
  order : g.order.length = g.init.length
  rows : ∀ (i : Nat) (l : List XEv) (f : List XId), g.threads[i]? = some l → g.from_[i]? = some f → f.length = l.length ∧ ∀ (j : Nat) (e : XEv) (q : XId), l[j]? = some e → f[j]? = some q → okE g i j e q = true
  perm : (wrAll g.threads 0).Perm (ordL g.order 0)
theorem right_iff {g : XG} : checkI g = 0 ↔ Right g := by
  constructor
  · intro h
    obtain ⟨b1, b2, b3, b4, b5, b6, b7⟩ := check_bounds h
    refine ⟨b1, b2, fun i l hl => b3 l (List.mem_of_getElem? hl), b4, b5, fun i l f k1 k2 => ?_, rightOrder_iff.1 b7⟩
    have := (rowsB_iff b4).1 b6 i l f k1 k2
    simp_all
  · intro h
    unfold checkI
    have h1 : tooLongB g = false := by
      unfold tooLongB
      rw [show ltI 4 (.ofNat g.threads.length) = false by rw [show (4 : Int) = .ofNat 4 from rfl, ltI_nat]; have := h.threads; simp; omega]
      rw [show ltI 6 (.ofNat g.init.length) = false by rw [show (6 : Int) = .ofNat 6 from rfl, ltI_nat]; have := h.init; simp; omega]
      show (g.threads.any fun l => ltI 14 (.ofNat l.length)) = false
      rw [List.any_eq_false]
      intro l hl
      obtain ⟨i, hi⟩ := List.getElem?_of_mem hl
      have := h.short i l hi
      rw [show (14 : Int) = .ofNat 14 from rfl, ltI_nat]; simp; omega
    rw [h1]
    rw [show eqI (.ofNat g.from_.length) (.ofNat g.threads.length) = true by rw [eqI_nat]; simp [h.from_]]
    rw [show eqI (.ofNat g.order.length) (.ofNat g.init.length) = true by rw [eqI_nat]; simp [h.order]]
    rw [show rowsB g g.threads g.from_ 0 = true from (rowsB_iff h.from_).2 fun i l f k1 k2 => by have := h.rows i l f k1 k2; rwa [Nat.zero_add]]
    rw [rightOrder_iff.2 h.perm]
    rfl
def ordW (o : List (List XId)) (e : XEv) (id : XId) (pl : Int) : List (List XId) :=
  bif writesB e then o.set e.loc.toNat (((o[e.loc.toNat]?).getD []).take (pl.toNat - 1) ++ id :: ((o[e.loc.toNat]?).getD []).drop (pl.toNat - 1)) else o
theorem grownG_eq {g : XG} {tm : Nat} {e : XEv} {fr : XId} {pl : Int} {row : List XEv} {frow : List XId} : grownG g tm e fr pl row frow = ⟨g.init, g.threads.set tm (row ++ [e]), g.from_.set tm (frow ++ [fr]), ordW g.order e ⟨.ofNat (tm + 1), .ofNat row.length⟩ pl⟩ := rfl
theorem badPlace_loc {g : XG} {e : XEv} {pl : Int} (h : badPlace g e pl = false) (hw : writesB e = true) : ∃ (ln : Nat) (r : List XId), e.loc = .ofNat ln ∧ g.order[ln]? = some r ∧ (writesG g e.loc).length = r.length + 1 := by
  unfold badPlace at h
  rw [hw] at h
  have h : (bif ltI pl 1 then true else ltI (.ofNat (writesG g e.loc).length) pl) = false := h
  cases h1 : ltI pl 1 with
  | true => rw [h1] at h; cases h
  | false =>
    rw [h1] at h
    obtain ⟨m, rfl⟩ := pos_of h1
    have h2 : ltI (.ofNat (writesG g e.loc).length) (.ofNat (m + 1)) = false := h
    have := lt_no h2
    exact writes_pos (by omega)
theorem addG_inv {g a : XG} {th pl : Int} {e : XEv} {fr : XId} (h : addG g th e fr pl = (some a, 0)) : checkI g = 0 ∧ ∃ tm row frow, th = .ofNat (tm + 1) ∧ g.threads[tm]? = some row ∧ g.from_[tm]? = some frow ∧ ltI (.ofNat row.length) 14 = true ∧ badPlace g e pl = false ∧ a = grownG g tm e fr pl row frow ∧ checkI a = 0 := by
  cases hc : eqI (checkI g) 0 with
  | false => rw [addG_chk hc] at h; cases h
  | true =>
    refine ⟨eq0 hc, ?_⟩
    cases h1 : ltI th 1 with
    | true => rw [addG_low hc h1] at h; cases h
    | false =>
      cases h2 : ltI (.ofNat g.threads.length) th with
      | true => rw [addG_big hc h1 h2] at h; cases h
      | false =>
        obtain ⟨tm, rfl⟩ := pos_of h1
        have htm : tm < g.threads.length := by have := lt_no h2; omega
        obtain ⟨row, hrow⟩ := at_of htm
        obtain ⟨frow, hfrow⟩ := at_of (show tm < g.from_.length by rw [(check_bounds (eq0 hc)).2.2.2.1]; exact htm)
        rw [addG_at hc hrow hfrow] at h
        cases h3 : ltI (.ofNat row.length) 14 with
        | false => rw [h3] at h; cases h
        | true =>
          rw [h3] at h
          rcases Bool.eq_false_or_eq_true (badPlace g e pl) with h4 | h4
          · rw [h4] at h; cases h
          · rw [h4] at h
            cases h5 : eqI (checkI (grownG g tm e fr pl row frow)) 0 with
            | false => rw [h5] at h; cases h
            | true =>
              rw [h5] at h
              have h6 : (some (grownG g tm e fr pl row frow), (0 : Int)) = (some a, 0) := h
              have h7 : grownG g tm e fr pl row frow = a := by cases h6; rfl
              subst h7
              exact ⟨tm, row, frow, rfl, hrow, hfrow, h3, h4, rfl, eq0 h5⟩
theorem ordW_at {o : List (List XId)} {e : XEv} {id : XId} {pl : Int} {k : Nat} (h : writesB e = true → e.loc.toNat ≠ k) : (ordW o e id pl)[k]? = o[k]? := by
  grind [ordW]
theorem eqI_self (x : Int) : eqI x x = true := by rw [eqI_eq]; simp
theorem cmpZ_cases (x y : Int) : (x < y ∧ cmpZ x y = -1) ∨ (x = y ∧ cmpZ x y = 0) ∨ (y < x ∧ cmpZ x y = 1) := by
  grind [cmpZ, ltI_eq]
structure Pre {α : Type} (c : α → α → Int) : Prop where
  anti : ∀ x y, c y x = -c x y
  small : ∀ x y, -1 ≤ c x y ∧ c x y ≤ 1
  trans : ∀ x y z, c x y ≤ 0 → c y z ≤ 0 → c x z ≤ 0
theorem pre_Z : Pre cmpZ where
  anti x y := by rcases cmpZ_cases x y with ⟨h, e⟩ | ⟨h, e⟩ | ⟨h, e⟩ <;> rcases cmpZ_cases y x with ⟨h', e'⟩ | ⟨h', e'⟩ | ⟨h', e'⟩ <;> omega
  small x y := by rcases cmpZ_cases x y with ⟨h, e⟩ | ⟨h, e⟩ | ⟨h, e⟩ <;> omega
  trans x y z := by rcases cmpZ_cases x y with ⟨h, e⟩ | ⟨h, e⟩ | ⟨h, e⟩ <;> rcases cmpZ_cases y z with ⟨h', e'⟩ | ⟨h', e'⟩ | ⟨h', e'⟩ <;> rcases cmpZ_cases x z with ⟨h2, e2⟩ | ⟨h2, e2⟩ | ⟨h2, e2⟩ <;> omega
theorem Pre.pull {α β : Type} {c : α → α → Int} (h : Pre c) (f : β → α) : Pre fun x y => c (f x) (f y) := ⟨fun x y => h.anti _ _, fun x y => h.small _ _, fun x y z => h.trans _ _ _⟩
theorem lexI (a b : Int) : (bif eqI a 0 then b else a) = if a = 0 then b else a := by
  rw [eqI_eq]
  simp_all
theorem Pre.lex {α : Type} {c d : α → α → Int} (hc : Pre c) (hd : Pre d) : Pre fun x y => bif eqI (c x y) 0 then d x y else c x y where
  anti x y := by
    have h1 := hc.anti x y
    have h2 := hd.anti x y
    simp only [lexI]
    omega
  small x y := by
    have h1 := hc.small x y
    have h2 := hd.small x y
    grind
  trans x y z := by
    have a1 := hc.anti x y; have a2 := hc.anti y z; have a3 := hc.anti x z
    have t1 := hc.trans x y z; have t2 := hc.trans z y x; have t3 := hc.trans y z x; have t4 := hc.trans z x y; have t5 := hc.trans y x z; have t6 := hc.trans x z y
    have td := hd.trans x y z
    simp only [lexI]
    omega
theorem Pre.fz {α : Type} {c : α → α → Int} {l : α → α → List Int} (hc : Pre c) (h : Pre fun x y => fnz (l x y)) : Pre fun x y => fnz (c x y :: l x y) := hc.lex h
theorem pre_nil {α : Type} : Pre fun _ _ : α => fnz [] := ⟨fun _ _ => rfl, fun _ _ => ⟨by decide, by decide⟩, fun _ _ _ _ _ => by decide⟩
theorem pre_L {α : Type} {c : α → α → Int} (hc : Pre c) : Pre (cmpL c) where
  anti := by
    intro l
    induction l with
    | nil => intro m; cases m <;> rfl
    | cons x l ih =>
      intro m
      cases m with
      | nil => rfl
      | cons y m =>
        show (bif eqI (c y x) 0 then cmpL c m l else c y x) = -(bif eqI (c x y) 0 then cmpL c l m else c x y)
        have h1 := hc.anti x y
        have h2 := ih m
        simp only [lexI]
        omega
  small := by
    intro l
    induction l with
    | nil =>
      intro m
      cases m with
      | nil => exact (by decide : (-1 : Int) ≤ 0 ∧ (0 : Int) ≤ 1)
      | cons y m => exact (by decide : (-1 : Int) ≤ -1 ∧ (-1 : Int) ≤ 1)
    | cons x l ih =>
      intro m
      cases m with
      | nil => exact (by decide : (-1 : Int) ≤ 1 ∧ (1 : Int) ≤ 1)
      | cons y m =>
        show -1 ≤ (bif eqI (c x y) 0 then cmpL c l m else c x y) ∧ (bif eqI (c x y) 0 then cmpL c l m else c x y) ≤ 1
        have h1 := hc.small x y
        grind
  trans := by
    intro l
    induction l with
    | nil => intro m n _ _; cases n <;> first | exact (by decide : (0 : Int) ≤ 0) | exact (by decide : (-1 : Int) ≤ 0)
    | cons x l ih =>
      intro m n
      cases m with
      | nil => intro h; exact absurd (show (1 : Int) ≤ 0 from h) (by decide)
      | cons y m =>
        cases n with
        | nil => intro _ h; exact absurd (show (1 : Int) ≤ 0 from h) (by decide)
        | cons z n =>
          show (bif eqI (c x y) 0 then cmpL c l m else c x y) ≤ 0 → (bif eqI (c y z) 0 then cmpL c m n else c y z) ≤ 0 → (bif eqI (c x z) 0 then cmpL c l n else c x z) ≤ 0
          have a1 := hc.anti x y; have a2 := hc.anti y z; have a3 := hc.anti x z
          have t1 := hc.trans x y z; have t2 := hc.trans z y x; have t3 := hc.trans y z x; have t4 := hc.trans z x y; have t5 := hc.trans y x z; have t6 := hc.trans x z y
          have td := ih m n
          simp only [lexI]
          omega
theorem pre_Len {α : Type} : Pre (cmpLen (α := α)) := pre_Z.pull fun l : List α => .ofNat l.length
theorem pre_Id : Pre cmpId := (pre_Z.pull XId.thread).fz ((pre_Z.pull XId.index).fz pre_nil)
theorem pre_Ev : Pre cmpEv := (pre_Z.pull XEv.kind).fz ((pre_Z.pull XEv.loc).fz ((pre_Z.pull XEv.order).fz ((pre_Z.pull XEv.read).fz ((pre_Z.pull XEv.write).fz pre_nil))))
theorem pre_Ids : Pre cmpIds := pre_Len.fz ((pre_L pre_Id).fz pre_nil)
theorem pre_G : Pre cmpG :=
  (pre_Len.pull XG.threads).fz (((pre_L pre_Len).pull XG.threads).fz (((pre_L (pre_L pre_Ev)).pull XG.threads).fz ((pre_Len.pull XG.from_).fz (((pre_L pre_Ids).pull XG.from_).fz ((pre_Len.pull XG.order).fz (((pre_L pre_Ids).pull XG.order).fz ((pre_Len.pull XG.init).fz (((pre_L pre_Z).pull XG.init).fz pre_nil))))))))
theorem cmpZ_eq {x y : Int} (h : cmpZ x y = 0) : x = y := by rcases cmpZ_cases x y with ⟨h', e⟩ | ⟨h', e⟩ | ⟨h', e⟩ <;> omega
theorem fnz_eq {x : Int} {l : List Int} (h : fnz (x :: l) = 0) : x = 0 ∧ fnz l = 0 := by
  have h : (bif eqI x 0 then fnz l else x) = 0 := h
  rw [lexI] at h
  omega
theorem cmpL_eq {α : Type} {c : α → α → Int} (hc : ∀ x y, c x y = 0 → x = y) : ∀ {l m : List α}, cmpL c l m = 0 → l = m
  | [], [], _ => rfl
  | [], _ :: _, h => absurd (show (-1 : Int) = 0 from h) (by decide)
  | _ :: _, [], h => absurd (show (1 : Int) = 0 from h) (by decide)
  | x :: l, y :: m, h => by
    have h : (bif eqI (c x y) 0 then cmpL c l m else c x y) = 0 := h
    rw [lexI] at h
    split at h
    · rename_i h1
      rw [hc x y h1, cmpL_eq hc h]
    · contradiction
theorem cmpId_eq (x y : XId) (h : cmpId x y = 0) : x = y := by
  obtain ⟨h1, h⟩ := fnz_eq h
  obtain ⟨h2, h⟩ := fnz_eq h
  cases x; cases y
  grind [cmpZ_eq]
theorem cmpEv_eq (x y : XEv) (h : cmpEv x y = 0) : x = y := by
  obtain ⟨h1, h⟩ := fnz_eq h
  obtain ⟨h2, h⟩ := fnz_eq h
  obtain ⟨h3, h⟩ := fnz_eq h
  obtain ⟨h4, h⟩ := fnz_eq h
  obtain ⟨h5, h⟩ := fnz_eq h
  cases x; cases y
  grind [cmpZ_eq]
theorem cmpIds_eq (x y : List XId) (h : cmpIds x y = 0) : x = y := by
  obtain ⟨_, h⟩ := fnz_eq h
  obtain ⟨h2, _⟩ := fnz_eq h
  exact cmpL_eq cmpId_eq h2
theorem cmpG_eq {x y : XG} (h : cmpG x y = 0) : x = y := by
  obtain ⟨_, h⟩ := fnz_eq h
  obtain ⟨_, h⟩ := fnz_eq h
  obtain ⟨h3, h⟩ := fnz_eq h
  obtain ⟨_, h⟩ := fnz_eq h
  obtain ⟨h5, h⟩ := fnz_eq h
  obtain ⟨_, h⟩ := fnz_eq h
  obtain ⟨h7, h⟩ := fnz_eq h
  obtain ⟨_, h⟩ := fnz_eq h
  obtain ⟨h9, _⟩ := fnz_eq h
  cases x; cases y
  grind [cmpL_eq, cmpEv_eq, cmpIds_eq, cmpZ_eq]
def lexP : List Int → List Int → Int
  | x :: l, y :: m => bif eqI (cmpZ x y) 0 then lexP l m else cmpZ x y
  | _, _ => 0
def LexApp (A B : List Int) (c : Int) : Prop := ∀ l m, lexP (A ++ l) (B ++ m) = bif eqI c 0 then lexP l m else c
theorem LexApp.nil : LexApp [] [] 0 := fun _ _ => rfl
theorem LexApp.one (x y : Int) : LexApp [x] [y] (cmpZ x y) := fun _ _ => rfl
theorem LexApp.app {A B A' B' : List Int} {c c' : Int} (h : LexApp A B c) (h' : c = 0 → LexApp A' B' c') : LexApp (A ++ A') (B ++ B') (bif eqI c 0 then c' else c) := fun l m => by
  rw [List.append_assoc, List.append_assoc, h]
  simp only [lexI]
  by_cases hc : c = 0
  · simp only [hc, if_true]
    rw [h' hc]
    simp only [lexI]
  omega
theorem LexApp.rows {α : Type} {enc : α → List Int} {c : α → α → Int} : ∀ {ls ms : List α}, ls.length = ms.length → (∀ (i : Nat) (x y : α), ls[i]? = some x → ms[i]? = some y → LexApp (enc x) (enc y) (c x y)) → LexApp (ls.flatMap enc) (ms.flatMap enc) (cmpL c ls ms)
  | [], [], _, _ => LexApp.nil
  | [], _ :: _, h, _ => by cases h
  | _ :: _, [], h, _ => by cases h
  | x :: ls, y :: ms, h, hc => by
    rw [List.flatMap_cons, List.flatMap_cons]
    exact (hc 0 x y rfl rfl).app fun _ => LexApp.rows (by simpa using h) fun i x y h1 h2 => hc (i + 1) x y (by simpa using h1) (by simpa using h2)
theorem LexApp.fz {A B A' B' : List Int} {c : Int} {l : List Int} (h : LexApp A B c) (h' : c = 0 → LexApp A' B' (fnz l)) : LexApp (A ++ A') (B ++ B') (fnz (c :: l)) := h.app h'
theorem lexApp_ints : ∀ {a b : List Int}, a.length = b.length → LexApp a b (cmpL cmpZ a b)
  | [], [], _ => LexApp.nil
  | [], _ :: _, h => by cases h
  | _ :: _, [], h => by cases h
  | x :: a, y :: b, h => (LexApp.one x y).app fun _ => lexApp_ints (by simpa using h)
theorem lexApp_ev (x y : XEv) : LexApp x.ints y.ints (cmpEv x y) :=
  (LexApp.one x.kind y.kind).fz (B' := [y.loc, y.order, y.read, y.write]) (A' := [x.loc, x.order, x.read, x.write]) fun _ =>
  (LexApp.one x.loc y.loc).fz (B' := [y.order, y.read, y.write]) (A' := [x.order, x.read, x.write]) fun _ =>
  (LexApp.one x.order y.order).fz (B' := [y.read, y.write]) (A' := [x.read, x.write]) fun _ =>
  (LexApp.one x.read y.read).fz (B' := [y.write]) (A' := [x.write]) fun _ =>
  (LexApp.one x.write y.write).fz (A' := []) (B' := []) fun _ => LexApp.nil
theorem lexApp_id (x y : XId) : LexApp x.ints y.ints (cmpId x y) :=
  (LexApp.one x.thread y.thread).fz (B' := [y.index]) (A' := [x.index]) fun _ => (LexApp.one x.index y.index).fz (A' := []) (B' := []) fun _ => LexApp.nil
theorem cmpLen_eq {α : Type} {a b : List α} (h : cmpLen a b = 0) : a.length = b.length := Int.ofNat.inj (cmpZ_eq h)
def encIds (r : List XId) : List Int := .ofNat r.length :: r.flatMap XId.ints
theorem lexApp_ids (x y : List XId) : LexApp (encIds x) (encIds y) (cmpIds x y) := by
  have h := (LexApp.one (.ofNat x.length) (.ofNat y.length)).fz (A' := x.flatMap XId.ints ++ []) (B' := y.flatMap XId.ints ++ []) (l := [cmpL cmpId x y]) fun h =>
    (LexApp.rows (enc := XId.ints) (c := cmpId) (cmpLen_eq h) fun _ x y _ _ => lexApp_id x y).fz (A' := []) (B' := []) (l := []) fun _ => LexApp.nil
  rw [List.append_nil, List.append_nil] at h
  exact h
def numsG (g : XG) : List Int :=
  [.ofNat g.threads.length] ++ (g.threads.map (fun r => Int.ofNat r.length) ++ (g.threads.flatMap (fun r => r.flatMap XEv.ints) ++ ([.ofNat g.from_.length] ++ (g.from_.flatMap encIds ++ ([.ofNat g.order.length] ++ (g.order.flatMap encIds ++ ([.ofNat g.init.length] ++ (g.init ++ []))))))))
theorem cmpL_map {α : Type} {f : α → Int} : ∀ {a b : List α}, cmpL cmpZ (a.map f) (b.map f) = cmpL (fun x y => cmpZ (f x) (f y)) a b
  | [], [] => rfl
  | [], _ :: _ => rfl
  | _ :: _, [] => rfl
  | x :: a, y :: b => by
    show (bif eqI (cmpZ (f x) (f y)) 0 then cmpL cmpZ (a.map f) (b.map f) else cmpZ (f x) (f y)) = (bif eqI (cmpZ (f x) (f y)) 0 then cmpL (fun x y => cmpZ (f x) (f y)) a b else cmpZ (f x) (f y))
    rw [cmpL_map]
theorem cmpL_zero {α : Type} {c : α → α → Int} : ∀ {a b : List α}, cmpL c a b = 0 → ∀ (i : Nat) (x y : α), a[i]? = some x → b[i]? = some y → c x y = 0
  | [], _, _, i, x, y, h, _ => by simp at h
  | _ :: _, [], _, i, x, y, _, h => by simp at h
  | p :: a, q :: b, h, i, x, y, h1, h2 => by
    have h : (bif eqI (c p q) 0 then cmpL c a b else c p q) = 0 := h
    rw [lexI] at h
    split at h
    · rename_i hc
      cases i with
      | zero =>
        have e1 : p = x := by simpa using h1
        have e2 : q = y := by simpa using h2
        subst e1 e2; exact hc
      | succ i => exact cmpL_zero h i x y (by simpa using h1) (by simpa using h2)
    · contradiction
theorem lexApp_G (a b : XG) : LexApp (numsG a) (numsG b) (cmpG a b) :=
  (LexApp.one _ _).fz fun h1 =>
  LexApp.fz (c := cmpL cmpLen a.threads b.threads) (by
    have := lexApp_ints (a := a.threads.map fun r => Int.ofNat r.length) (b := b.threads.map fun r => Int.ofNat r.length) (by rw [List.length_map, List.length_map]; exact cmpLen_eq h1)
    rw [cmpL_map] at this
    exact this) fun h2 =>
  LexApp.fz (c := cmpL (cmpL cmpEv) a.threads b.threads) (LexApp.rows (cmpLen_eq h1) fun i x y hx hy => LexApp.rows (cmpLen_eq (cmpL_zero h2 i x y hx hy)) fun _ e f _ _ => lexApp_ev e f) fun _ =>
  (LexApp.one _ _).fz fun h4 =>
  LexApp.fz (c := cmpL cmpIds a.from_ b.from_) (LexApp.rows (cmpLen_eq h4) fun _ x y _ _ => lexApp_ids x y) fun _ =>
  (LexApp.one _ _).fz fun h6 =>
  LexApp.fz (c := cmpL cmpIds a.order b.order) (LexApp.rows (cmpLen_eq h6) fun _ x y _ _ => lexApp_ids x y) fun _ =>
  (LexApp.one _ _).fz fun h8 =>
  LexApp.fz (c := cmpL cmpZ a.init b.init) (lexApp_ints (cmpLen_eq h8)) fun _ => LexApp.nil
theorem lexP_G (a b : XG) : lexP (numsG a) (numsG b) = cmpG a b := by
  have h := lexApp_G a b [] []
  rw [List.append_nil, List.append_nil] at h
  rw [h]
  show (bif eqI (cmpG a b) 0 then 0 else cmpG a b) = _
  rw [lexI]
  split <;> omega
theorem ints_at {xs : List Int} {i : Nat} {x : Int} (h : xs[i]? = some x) : (ints xs)[i]? = some (.int .i64 x) := by
  unfold ints; simp_all
theorem hasS_ints {K : KP} {xs : List Int} {vb e : Nat} (h : K vb (.row (ints xs) e false)) (hn : xs.length ≤ 1000) : HasS K 1 RInt xs (.slice vb 0 xs.length (.known xs.length)) := by
  refine .inr ⟨vb, 0, _, _, e, false, rfl, .inr ⟨_, rfl, Nat.le_refl _⟩, h, ?_, by omega, fun i x hx => ?_⟩
  · unfold ints; simp_all
  · rw [Nat.mul_one, Nat.zero_add, drop_at (ints_at hx)]; rfl
theorem flatMap_take {α β : Type} {f : α → List β} : ∀ {l : List α} {i : Nat} {x : α}, l[i]? = some x → (l.take (i + 1)).flatMap f = (l.take i).flatMap f ++ f x
  | [], _, _, h => by simp at h
  | y :: l, 0, x, h => by
    have : y = x := by simpa using h
    subst this; simp
  | y :: l, i + 1, x, h => by
    have h' : l[i]? = some x := by simpa using h
    show (y :: l.take (i + 1)).flatMap f = (y :: l.take i).flatMap f ++ f x
    rw [List.flatMap_cons, List.flatMap_cons, flatMap_take h', List.append_assoc]
theorem map_take {α β : Type} {f : α → β} {l : List α} {i : Nat} {x : α} (h : l[i]? = some x) : (l.take (i + 1)).map f = (l.take i).map f ++ [f x] := by
  rw [List.take_add_one, h, List.map_append]; rfl
theorem ownS_ints {xs : List Int} {b e E : Nat} (hn : xs.length ≤ 1000) : OwnS 1 E RInt xs (.slice b 0 xs.length (.known xs.length)) [(b, .row (ints xs) e false)] := by
  refine .inr ⟨b, _, _, e, rfl, rfl, ?_, fun i x hx => ?_, .inl rfl, by omega⟩
  · unfold ints; simp_all
  · rw [Nat.mul_one, drop_at (ints_at hx)]; rfl
structure FewN (g : XG) : Prop where
  t : g.threads.length ≤ 4
  r : ∀ l ∈ g.threads, l.length ≤ 14
  f : g.from_.length ≤ 4
  fr : ∀ l ∈ g.from_, l.length ≤ 14
  o : g.order.length ≤ 6
  or_ : ∀ l ∈ g.order, l.length ≤ 56
  i : g.init.length ≤ 6
theorem fm_le {α β : Type} {f : α → List β} : ∀ {l : List α} (i : Nat), ((l.take i).flatMap f).length ≤ (l.flatMap f).length
  | [], _ => by simp
  | x :: l, 0 => by simp
  | x :: l, i + 1 => by
    show ((x :: l.take i).flatMap f).length ≤ _
    rw [List.flatMap_cons, List.flatMap_cons, List.length_append, List.length_append]
    have := fm_le (f := f) (l := l) i
    omega
theorem fm_at {α β : Type} {f : α → List β} {l : List α} {i : Nat} {x : α} (h : l[i]? = some x) : ((l.take i).flatMap f).length + (f x).length ≤ (l.flatMap f).length := by
  have := fm_le (f := f) (l := l) (i + 1)
  rw [flatMap_take h, List.length_append] at this
  exact this
theorem fm_len {α β : Type} {f : α → List β} (hf : ∀ x, 1 ≤ (f x).length) : ∀ {l : List α}, l.length ≤ (l.flatMap f).length
  | [] => Nat.zero_le _
  | x :: l => by
    have := fm_len hf (l := l)
    have := hf x
    rw [List.flatMap_cons, List.length_append, List.length_cons]
    omega
structure FewZ (g : XG) : Prop where
  n : 6 + g.threads.length + (g.threads.flatMap fun r => r.flatMap XEv.ints).length + (g.from_.flatMap encIds).length + (g.order.flatMap encIds).length + g.init.length ≤ 1048576
theorem enc_len (r : List XId) : 1 ≤ (encIds r).length := by unfold encIds; rw [List.length_cons]; omega
theorem enc_ids (r : List XId) : (encIds r).length = 1 + r.length * 2 := by
  unfold encIds
  rw [List.length_cons]
  have : ∀ l : List XId, (l.flatMap XId.ints).length = l.length * 2 := fun l => by
    induction l with
    | nil => rfl
    | cons x l ih => rw [List.flatMap_cons, List.length_append, ih, List.length_cons, show x.ints.length = 2 from rfl]; omega
  rw [this]; omega
theorem evs_ints (l : List XEv) : (l.flatMap XEv.ints).length = l.length * 5 := by
  induction l with
  | nil => rfl
  | cons x l ih => rw [List.flatMap_cons, List.length_append, ih, List.length_cons, show x.ints.length = 5 from rfl]; omega
theorem FewZ.t {g : XG} (h : FewZ g) : g.threads.length ≤ 1048570 := by have := h.n; omega
theorem FewZ.f {g : XG} (h : FewZ g) : g.from_.length ≤ 1048570 := by have := h.n; have := fm_len enc_len (l := g.from_); omega
theorem FewZ.o {g : XG} (h : FewZ g) : g.order.length ≤ 1048570 := by have := h.n; have := fm_len enc_len (l := g.order); omega
theorem FewZ.i {g : XG} (h : FewZ g) : g.init.length ≤ 1048570 := by have := h.n; omega
theorem FewZ.r {g : XG} (h : FewZ g) (l : List XEv) (hl : l ∈ g.threads) : l.length ≤ 1048570 := by
  obtain ⟨i, hi⟩ := List.getElem?_of_mem hl
  have := fm_at (f := fun r : List XEv => r.flatMap XEv.ints) hi
  rw [evs_ints] at this
  have := h.n
  omega
theorem FewZ.fr {g : XG} (h : FewZ g) (l : List XId) (hl : l ∈ g.from_) : l.length ≤ 1048570 := by
  obtain ⟨i, hi⟩ := List.getElem?_of_mem hl
  have := fm_at (f := encIds) hi
  rw [enc_ids] at this
  have := h.n
  omega
theorem FewZ.or_ {g : XG} (h : FewZ g) (l : List XId) (hl : l ∈ g.order) : l.length ≤ 1048570 := by
  obtain ⟨i, hi⟩ := List.getElem?_of_mem hl
  have := fm_at (f := encIds) hi
  rw [enc_ids] at this
  have := h.n
  omega
theorem len_za {g : XG} (i : Nat) : ((g.threads.take i).map fun r => Int.ofNat r.length).length ≤ g.threads.length := by rw [List.length_map, List.length_take]; omega
theorem len_zb {ls : List (List XEv)} {i q : Nat} {row : List XEv} {x : XEv} (hr : ls[i]? = some row) (hx : row[q]? = some x) : ((ls.take i).flatMap fun r => r.flatMap XEv.ints).length + ((row.take q).flatMap XEv.ints).length + 5 ≤ (ls.flatMap fun r => r.flatMap XEv.ints).length := by
  have h1 := fm_at (f := fun r : List XEv => r.flatMap XEv.ints) hr
  have h2 : _ ≤ (row.flatMap XEv.ints).length := fm_at (f := XEv.ints) hx
  rw [show (XEv.ints x).length = 5 from rfl] at h2
  omega
theorem len_z1 {ls : List (List XId)} {i : Nat} {row : List XId} (hr : ls[i]? = some row) : ((ls.take i).flatMap encIds).length + 1 + row.length * 2 ≤ (ls.flatMap encIds).length := by
  have h1 := fm_at (f := encIds) hr
  rw [enc_ids] at h1
  omega
theorem len_z2 {ls : List (List XId)} {i q : Nat} {row : List XId} {x : XId} (hr : ls[i]? = some row) (hx : row[q]? = some x) : ((ls.take i).flatMap encIds).length + 1 + ((row.take q).flatMap XId.ints).length + 2 ≤ (ls.flatMap encIds).length := by
  have h1 := fm_at (f := encIds) hr
  have h2 : _ ≤ (row.flatMap XId.ints).length := fm_at (f := XId.ints) hx
  rw [show (XId.ints x).length = 2 from rfl] at h2
  rw [show (encIds row).length = (row.flatMap XId.ints).length + 1 from rfl] at h1
  omega
end Go.Ev
namespace Go.Ev
variable {α : Type}
structure Cmp3 (c : α → α → Int) (P : α → Prop) : Prop where
  zero : ∀ x y, P x → P y → (c x y = 0 ↔ x = y)
  neg : ∀ x y, P x → P y → (c x y < 0 ↔ 0 < c y x)
  trans : ∀ x y z, P x → P y → P z → c x y < 0 → c y z < 0 → c x z < 0
def Incr (c : α → α → Int) (l : List α) : Prop := l.Pairwise fun x y => c x y < 0
def insD (c : α → α → Int) : List α → α → List α
  | [], x => [x]
  | y :: l, x => if c y x < 0 then y :: insD c l x else if c y x = 0 then y :: l else x :: y :: l
def sortD (c : α → α → Int) (l : List α) : List α := l.foldl (insD c) []
def compL (c : α → α → Int) : α → List α → List α
  | _, [] => []
  | p, x :: l => if c x p = 0 then compL c x l else x :: compL c x l
def compact (c : α → α → Int) : List α → List α
  | [] => []
  | x :: l => x :: compL c x l
section
variable {c : α → α → Int} {P : α → Prop}
theorem Cmp3.irr (h : Cmp3 c P) {x : α} (hx : P x) : ¬ c x x < 0 := by
  rw [(h.zero x x hx hx).2 rfl]; omega
theorem incr_unique (h : Cmp3 c P) : ∀ {l m : List α}, (∀ x ∈ l, P x) → (∀ x ∈ m, P x) → Incr c l → Incr c m → (∀ x, x ∈ l ↔ x ∈ m) → l = m
  | [], [], _, _, _, _, _ => rfl
  | [], y :: m, _, _, _, _, he => by cases (he y).2 (List.mem_cons_self ..)
  | x :: l, [], _, _, _, _, he => by cases (he x).1 (List.mem_cons_self ..)
  | x :: l, y :: m, hl, hm, il, im, he => by
    obtain ⟨i1, i2⟩ := List.pairwise_cons.1 il
    obtain ⟨j1, j2⟩ := List.pairwise_cons.1 im
    have px := hl x (List.mem_cons_self ..)
    have py := hm y (List.mem_cons_self ..)
    have hxy : x = y := by
      rcases List.mem_cons.1 ((he x).1 (List.mem_cons_self ..)) with e | hx
      · exact e
      · rcases List.mem_cons.1 ((he y).2 (List.mem_cons_self ..)) with e | hy
        · exact e.symm
        · exact absurd (h.trans x y x px py px (i1 y hy) (j1 x hx)) (h.irr px)
    subst hxy
    have : l = m := incr_unique h (fun z hz => hl z (List.mem_cons_of_mem _ hz)) (fun z hz => hm z (List.mem_cons_of_mem _ hz)) i2 j2 fun z => by
      constructor
      · intro hz
        rcases List.mem_cons.1 ((he z).1 (List.mem_cons_of_mem _ hz)) with e | hz'
        · subst e; exact absurd (i1 z hz) (h.irr px)
        · exact hz'
      · intro hz
        rcases List.mem_cons.1 ((he z).2 (List.mem_cons_of_mem _ hz)) with e | hz'
        · subst e; exact absurd (j1 z hz) (h.irr px)
        · exact hz'
    rw [this]
theorem insD_mem (h : Cmp3 c P) : ∀ {l : List α} {x z : α}, (∀ y ∈ l, P y) → P x → (z ∈ insD c l x ↔ z = x ∨ z ∈ l)
  | [], x, z, _, _ => by unfold insD; simp
  | y :: l, x, z, hl, hx => by
    have py := hl y (List.mem_cons_self ..)
    unfold insD
    split
    · rw [List.mem_cons, insD_mem h (fun w hw => hl w (List.mem_cons_of_mem _ hw)) hx, List.mem_cons]
      exact ⟨fun h => by rcases h with h | h | h <;> simp [h], fun h => by rcases h with h | h | h <;> simp [h]⟩
    · split
      · rename_i h0
        have e := (h.zero y x py hx).1 h0
        subst e
        constructor
        · exact .inr
        · rintro (rfl | h)
          · exact List.mem_cons_self ..
          · exact h
      · rw [List.mem_cons]
theorem insD_incr (h : Cmp3 c P) : ∀ {l : List α} {x : α}, (∀ y ∈ l, P y) → P x → Incr c l → Incr c (insD c l x)
  | [], x, _, _, _ => List.pairwise_singleton ..
  | y :: l, x, hl, hx, hi => by
    obtain ⟨i1, i2⟩ := List.pairwise_cons.1 hi
    have py := hl y (List.mem_cons_self ..)
    have hl' : ∀ w ∈ l, P w := fun w hw => hl w (List.mem_cons_of_mem _ hw)
    unfold insD
    split
    · rename_i hlt
      refine List.pairwise_cons.2 ⟨fun z hz => ?_, insD_incr h hl' hx i2⟩
      rcases (insD_mem h hl' hx).1 hz with rfl | hz
      · exact hlt
      · exact i1 z hz
    · split
      · exact hi
      · rename_i h1 h2
        have hxy : c x y < 0 := (h.neg x y hx py).2 (by omega)
        refine List.pairwise_cons.2 ⟨fun z hz => ?_, hi⟩
        rcases List.mem_cons.1 hz with rfl | hz
        · exact hxy
        · exact h.trans x y z hx py (hl' z hz) hxy (i1 z hz)
theorem foldD (h : Cmp3 c P) : ∀ {l a : List α}, (∀ x ∈ l, P x) → (∀ x ∈ a, P x) → Incr c a → Incr c (l.foldl (insD c) a) ∧ (∀ z, z ∈ l.foldl (insD c) a ↔ z ∈ a ∨ z ∈ l)
  | [], a, _, _, hi => ⟨hi, fun z => by simp⟩
  | x :: l, a, hl, ha, hi => by
    have px := hl x (List.mem_cons_self ..)
    have ha' : ∀ z ∈ insD c a x, P z := fun z hz => by
      rcases (insD_mem h ha px).1 hz with rfl | hz
      · exact px
      · exact ha z hz
    obtain ⟨h1, h2⟩ := foldD h (l := l) (a := insD c a x) (fun z hz => hl z (List.mem_cons_of_mem _ hz)) ha' (insD_incr h ha px hi)
    refine ⟨h1, fun z => ?_⟩
    show z ∈ l.foldl (insD c) (insD c a x) ↔ _
    rw [h2, insD_mem h ha px, List.mem_cons]
    constructor
    · rintro ((h | h) | h) <;> simp [h]
    · rintro (h | h | h) <;> simp [h]
theorem sortD_is (h : Cmp3 c P) {l : List α} (hl : ∀ x ∈ l, P x) : Incr c (sortD c l) ∧ ∀ z, z ∈ sortD c l ↔ z ∈ l := by
  obtain ⟨h1, h2⟩ := foldD h (l := l) (a := []) hl (fun _ hx => by cases hx) List.Pairwise.nil
  exact ⟨h1, fun z => by show z ∈ l.foldl (insD c) [] ↔ _; rw [h2]; simp⟩
def Rising (c : α → α → Int) (l : List α) : Prop := l.Pairwise fun x y => ¬ c y x < 0
theorem compL_is (h : Cmp3 c P) : ∀ {l : List α} {p : α}, P p → (∀ x ∈ l, P x) → Rising c (p :: l) → Incr c (p :: compL c p l) ∧ ∀ z, z ∈ p :: compL c p l ↔ z ∈ p :: l
  | [], p, _, _, _ => ⟨List.pairwise_singleton .., fun z => Iff.rfl⟩
  | x :: l, p, hp, hl, hr => by
    obtain ⟨r1, r2⟩ := List.pairwise_cons.1 hr
    have px := hl x (List.mem_cons_self ..)
    have hl' : ∀ w ∈ l, P w := fun w hw => hl w (List.mem_cons_of_mem _ hw)
    obtain ⟨i1, i2⟩ := compL_is h px hl' r2
    unfold compL
    split
    · rename_i h0
      have e := (h.zero x p px hp).1 h0
      subst e
      refine ⟨i1, fun z => ?_⟩
      rw [i2, List.mem_cons, List.mem_cons]
      constructor
      · rintro (h | h) <;> simp [h]
      · rintro (h | h)
        · exact .inl h
        · exact List.mem_cons.1 h
    · rename_i h0
      have hpx : c p x < 0 := by
        have hn : ¬ c x p < 0 := r1 x (List.mem_cons_self ..)
        exact (h.neg p x hp px).2 (by omega)
      refine ⟨List.pairwise_cons.2 ⟨fun z hz => ?_, i1⟩, fun z => ?_⟩
      · rcases List.mem_cons.1 hz with rfl | hz
        · exact hpx
        · have hzl : P z := by
            rcases List.mem_cons.1 ((i2 z).1 (List.mem_cons_of_mem _ hz)) with rfl | h
            · exact px
            · exact hl' z h
          exact h.trans p x z hp px hzl hpx ((List.pairwise_cons.1 i1).1 z hz)
      · rw [List.mem_cons, i2, List.mem_cons, List.mem_cons, List.mem_cons]
theorem compact_is (h : Cmp3 c P) {l : List α} (hl : ∀ x ∈ l, P x) (hr : Rising c l) : Incr c (compact c l) ∧ ∀ z, z ∈ compact c l ↔ z ∈ l := by
  cases l with
  | nil => exact ⟨List.Pairwise.nil, fun z => Iff.rfl⟩
  | cons x l => exact compL_is h (hl x (List.mem_cons_self ..)) (fun z hz => hl z (List.mem_cons_of_mem _ hz)) hr
theorem sort_compact (h : Cmp3 c P) {l s : List α} (hl : ∀ x ∈ l, P x) (hp : s.Perm l) (hr : Rising c s) : compact c s = sortD c l := by
  have hs : ∀ x ∈ s, P x := fun x hx => hl x (hp.mem_iff.1 hx)
  obtain ⟨a1, a2⟩ := compact_is h hs hr
  obtain ⟨b1, b2⟩ := sortD_is h hl
  exact incr_unique h (fun x hx => hs x ((a2 x).1 hx)) (fun x hx => hl x ((b2 x).1 hx)) a1 b1 fun z => by rw [a2, b2, hp.mem_iff]
end
end Go.Ev
namespace Go.Ev
variable [Env]
theorem cmp3_G : Cmp3 cmpG fun _ => True where
  zero x y _ _ := ⟨cmpG_eq, fun h => by subst h; exact cmpG_self x⟩
  neg x y _ _ := by have := pre_G.anti x y; omega
  trans x y z _ _ _ h1 h2 := by
    have a1 := pre_G.anti x y
    have a2 := pre_G.anti y z
    have a3 := pre_G.anti x z
    have t := pre_G.trans x y z (by omega) (by omega)
    refine Classical.byContradiction fun hn => ?_
    have h0 : cmpG x z = 0 := by omega
    have e := cmpG_eq h0
    subst e
    omega
theorem swo_of {α : Type} {c : α → α → Int} (h : Cmp3 c fun _ => True) : Sort.SWO fun x y => decide (c x y < 0) where
  irrefl x := decide_eq_false (h.irr trivial)
  trans x y z h1 h2 := decide_eq_true (h.trans x y z trivial trivial trivial (of_decide_eq_true h1) (of_decide_eq_true h2))
  ntrans x y z h1 h2 := decide_eq_false fun h3 => by
    have n1 := of_decide_eq_false h1
    have n2 := of_decide_eq_false h2
    have ge : ∀ a b : α, ¬ c a b < 0 → a = b ∨ c b a < 0 := fun a b hn => by
      by_cases h0 : c a b = 0
      · exact .inl ((h.zero a b trivial trivial).1 h0)
      · exact .inr ((h.neg b a trivial trivial).2 (by omega))
    rcases ge x y n1 with e | e1
    · subst e; exact n2 h3
    · rcases ge y z n2 with e | e2
      · subst e; exact n1 h3
      · exact h.irr trivial (h.trans x z x trivial trivial trivial h3 (h.trans z y x trivial trivial trivial e2 e1))
section
variable {P : Program} {G : Cx} {n : Nat} {t : PT AV} {σ : AHeap} {K : KP} {L : Own} {Q : Ex → PT AV → AHeap → Prop} {ops : Array Oper} {o : Oper} {l : List Oper}
def EvRound (P : Program) (G : Cx) (b : Pos) (args : List AV) (σ : AHeap) (R : AV → AHeap → Prop) : Prop :=
  ∃ (K : Nat) (v : AV) (σ' : AHeap), (∀ k, K ≤ k → roundX (runX P G k) b args σ = .ret v σ') ∧ R v σ'
theorem EvRound.mono {b : Pos} {args : List AV} {R R' : AV → AHeap → Prop} (h : EvRound P G b args σ R) (hq : ∀ v σ', R v σ' → R' v σ') : EvRound P G b args σ R' :=
  let ⟨K, v, σ', h1, h2⟩ := h; ⟨K, v, σ', h1, hq _ _ h2⟩
def EvD (P : Program) (G : Cx) (c : Code) (n : Nat) (t : PT AV) (σ : AHeap) (Q : List DE → Ex → PT AV → AHeap → Prop) : Prop :=
  ∃ (K : Nat) (D : List DE) (e : Ex) (t' : PT AV) (σ' : AHeap), (∀ d k, K ≤ k → runX P G k c t n d none σ = .ok e t' (D ++ d) σ') ∧ Q D e t' σ'
theorem St.unkeepsG {σ0 : AHeap} {M L0 : Own} (h0 : St σ0 K (M ++ L0)) (h : St σ (K.adds M) L) : St σ K (M ++ L) where
  kept b o hb := by
    obtain ⟨h1, h2, h3⟩ := h.kept b o (.inl hb)
    refine ⟨h1, h2, fun e he => ?_⟩
    rcases List.mem_append.1 he with he | he
    · exact (h0.kept b o hb).2.2 e (List.mem_append_left _ he)
    · exact h3 e he
  own e he := by
    rcases List.mem_append.1 he with he | he
    · exact ⟨(h.kept e.1 e.2 (.inr he)).1, (h.kept e.1 e.2 (.inr he)).2.1⟩
    · exact h.own e he
  ne := List.pairwise_append.2 ⟨(List.pairwise_append.1 h0.ne).1, h.ne, fun a ha b hb e => (h.kept a.1 a.2 (.inr ha)).2.2 b hb e.symm⟩
end
section
variable {P : Program} {G : Cx} {ev : Operand → Option AV} {σ : AHeap} {K : KP} {L : Own}
end
def OwnT {α : Type} (m E : Nat) (R : α → List AV → Prop) (l : List α) (u : AV) (M : Own) : Prop :=
  (l = [] ∧ u = .nilSlice ∧ M = []) ∨ ∃ (b : Nat) (c : Cap) (cells : List AV) (e : Nat), u = .slice b 0 l.length c ∧ M = [(b, .row cells e false)] ∧ l.length * m ≤ cells.length ∧ (∀ (i : Nat) (x : α), l[i]? = some x → R x ((cells.drop (i * m)).take m)) ∧ ((∃ n, c = .known n ∧ l.length ≤ n ∧ n * m ≤ cells.length) ∨ (c = .upto m ∧ e = E)) ∧ l.length ≤ 1048576
section
variable {α : Type} {m E : Nat} {R : α → List AV → Prop} {l : List α} {u : AV} {M : Own} {K : KP}
theorem OwnT.hasS (h : OwnT m E R l u M) (hk : ∀ e ∈ M, K e.1 e.2) : HasS K m R l u := by
  rcases h with ⟨h1, h2, _⟩ | ⟨b, c, cells, e, rfl, rfl, h3, h4, h5, h6⟩
  · exact .inl ⟨h1, h2⟩
  · refine .inr ⟨b, 0, c, cells, e, false, rfl, ?_, hk _ (List.mem_cons_self ..), by omega, by omega, fun i x hx => by simp_all⟩
    rcases h5 with ⟨n, h5, h7, _⟩ | h5
    · exact .inr ⟨_, h5, h7⟩
    · exact .inl h5.1
theorem OwnT.take (h : OwnT m E R l u M) {P : Program} {ev : Operand → Option AV} {t : TypeId} {x hi : Operand} {kk : IntKind} {k : Nat} (hk : k ≤ l.length) (hu : P.underlying t = some (.slice E)) (hj : (P.info? E).map (·.size) = some m) (hx : ev x = some u) (hh : ev hi = some (.int kk (.ofNat k))) :
    ∃ u', sliceA P ev t x none (some hi) none = some u' ∧ OwnT m E R (l.take k) u' M := by
  obtain ⟨j, hj', rfl⟩ := Option.map_eq_some_iff.1 hj
  rcases h with ⟨rfl, rfl, rfl⟩ | ⟨b, c, cells, e, rfl, rfl, h3, h4, h5, h6⟩
  · obtain rfl : k = 0 := by simpa using hk
    refine ⟨.nilSlice, ?_, .inl ⟨rfl, rfl, rfl⟩⟩
    have : boundsA ev 0 0 none (some hi) = some (0, 0) := bnd_hi hh (Nat.le_refl _)
    simp only [sliceA, hu, hx, hj', this]
  · have hl : (l.take k).length = k := by simp_all
    have hR : ∀ (i : Nat) (x : α), (l.take k)[i]? = some x → R x ((cells.drop (i * j.size)).take j.size) := fun i x hi => by
      grind
    have hle : k * j.size ≤ cells.length := Nat.le_trans (Nat.mul_le_mul_right _ hk) h3
    rcases h5 with ⟨n, rfl, h7, h8⟩ | ⟨rfl, rfl⟩
    · refine ⟨.slice b 0 k (.known n), ?_, .inr ⟨b, .known n, cells, e, by rw [hl], rfl, by rw [hl]; exact hle, hR, .inl ⟨n, rfl, by rw [hl]; omega, h8⟩, by rw [hl]; omega⟩⟩
      have : boundsA ev l.length n none (some hi) = some (0, k) := bnd_hi hh (by omega)
      simp only [sliceA, hu, hx, cutAt, this, cut, hj']
      simp_all
    · refine ⟨.slice b 0 k (.upto j.size), ?_, .inr ⟨b, .upto j.size, cells, e, by rw [hl], rfl, by rw [hl]; exact hle, hR, .inr ⟨rfl, rfl⟩, by rw [hl]; omega⟩⟩
      have : boundsA ev l.length l.length none (some hi) = some (0, k) := bnd_hi hh hk
      simp only [sliceA, hu, hx, this, hj', show Nat.beq j.size j.size = true from Nat.beq_refl _, cond_true, Nat.zero_mul, Nat.sub_zero, Nat.add_zero]
end
section
variable {α : Type} {m E : Nat} {R : α → List AV → Prop}
theorem app_elems {l l2 : List α} {cells news Z : List AV} (hl : l.length * m ≤ cells.length) (h1 : ∀ (i : Nat) (x : α), l[i]? = some x → R x ((cells.drop (i * m)).take m)) (hn : news.length = l2.length * m) (h2 : ∀ (i : Nat) (x : α), l2[i]? = some x → R x ((news.drop (i * m)).take m)) :
    ∀ (i : Nat) (x : α), (l ++ l2)[i]? = some x → R x (((cells.take (l.length * m) ++ (news ++ Z)).drop (i * m)).take m) := by
  intro i x hx
  have hA : (cells.take (l.length * m)).length = l.length * m := by simp_all
  by_cases hi : i < l.length
  · rw [List.getElem?_append_left hi] at hx
    have hle : (i + 1) * m ≤ l.length * m := Nat.mul_le_mul_right _ hi
    grind [List.drop_take]
  · rw [List.getElem?_append_right (by omega)] at hx
    have hlt := (List.getElem?_eq_some_iff.1 hx).1
    have hle : l.length * m ≤ i * m := Nat.mul_le_mul_right _ (by omega)
    have hle2 : (i - l.length + 1) * m ≤ l2.length * m := Nat.mul_le_mul_right _ hlt
    rw [Nat.succ_mul] at hle2
    rw [List.drop_append, List.drop_eq_nil_of_le (by omega), List.nil_append, hA, ← Nat.sub_mul, List.drop_append_of_le_length (by omega), List.take_append_of_le_length (by grind)]
    exact h2 _ x hx
section
variable {P : Program} {K : KP} {L : Own}
end
end
theorem sumLen_cons {α : Type} {l : List α} {ls : List (List α)} : sumLen (l :: ls) = l.length + sumLen ls := by unfold sumLen; simp
theorem wrRow_mem {t : Nat} : ∀ {l : List XEv} {n : Nat}, ∀ p ∈ wrRow t l n, ∃ k, p.1 = [.ofNat (t + 1), .ofNat (n + k)] ∧ k < l.length
  | [], _, p, h => by cases h
  | e :: l, n, p, h => by
    have h' : p ∈ (bif writesB e then ([.ofNat (t + 1), .ofNat n], e.loc) :: wrRow t l (n + 1) else wrRow t l (n + 1)) := h
    have key : p ∈ wrRow t l (n + 1) → ∃ k, p.1 = [.ofNat (t + 1), .ofNat (n + k)] ∧ k < (e :: l).length := fun h => by
      obtain ⟨k, h1, h2⟩ := wrRow_mem (l := l) p h
      exact ⟨k + 1, by rw [h1, show n + 1 + k = n + (k + 1) by omega], by rw [List.length_cons]; omega⟩
    cases hw : writesB e with
    | false => rw [hw] at h'; exact key h'
    | true =>
      rw [hw] at h'
      rcases List.mem_cons.1 h' with rfl | h'
      · exact ⟨0, rfl, by rw [List.length_cons]; omega⟩
      · exact key h'
theorem wrAll_mem : ∀ {ls : List (List XEv)} {t : Nat}, ∀ p ∈ wrAll ls t, ∃ (s k : Nat) (l : List XEv), p.1 = [.ofNat (t + s + 1), .ofNat k] ∧ ls[s]? = some l ∧ k < l.length
  | [], _, p, h => by cases h
  | l :: ls, t, p, h => by
    have h' : p ∈ wrRow t l 0 ++ wrAll ls (t + 1) := h
    rcases List.mem_append.1 h' with h' | h'
    · obtain ⟨k, h1, h2⟩ := wrRow_mem p h'
      exact ⟨0, k, l, by rw [h1, Nat.zero_add], rfl, h2⟩
    · obtain ⟨s, k, l', h1, h2, h3⟩ := wrAll_mem (ls := ls) p h'
      exact ⟨s + 1, k, l', by rw [h1, show t + 1 + s + 1 = t + (s + 1) + 1 by omega], by simpa using h2, h3⟩
theorem ordL_mem : ∀ {ls : List (List XId)} {loc ln : Nat} {r : List XId} {x : XId}, ls[ln]? = some r → x ∈ r → (x.ints, Int.ofNat (loc + ln)) ∈ ordL ls loc
  | [], _, _, _, _, h, _ => by simp at h
  | l :: ls, loc, 0, r, x, h, hx => by
    have : l = r := by simpa using h
    subst this
    exact List.mem_append_left _ (List.mem_map.2 ⟨x, hx, rfl⟩)
  | l :: ls, loc, ln + 1, r, x, h, hx => by
    have h' : ls[ln]? = some r := by simpa using h
    have := ordL_mem (loc := loc + 1) h' hx
    rw [show loc + 1 + ln = loc + (ln + 1) by omega] at this
    exact List.mem_append_right _ this
theorem new_not {g : XG} (h : Right g) {tm ln : Nat} {row : List XEv} {r : List XId} (hr : g.threads[tm]? = some row) (ho : g.order[ln]? = some r) : (⟨.ofNat (tm + 1), .ofNat row.length⟩ : XId) ∉ r := fun hx => by
  have h1 := h.perm.mem_iff.2 (ordL_mem (loc := 0) ho hx)
  obtain ⟨s, k, l, h2, h3, h4⟩ := wrAll_mem _ h1
  rw [show 0 + s + 1 = s + 1 by omega] at h2
  have h2 : [Int.ofNat (tm + 1), Int.ofNat row.length] = [.ofNat (s + 1), .ofNat k] := h2
  grind
theorem sumLen_set {α : Type} : ∀ {ls : List (List α)} {tm : Nat} {row : List α} {e : α}, ls[tm]? = some row → sumLen (ls.set tm (row ++ [e])) = sumLen ls + 1
  | [], _, _, _, h => by simp at h
  | l :: ls, 0, row, e, h => by
    have : l = row := by simpa using h
    subst this
    show sumLen ((l ++ [e]) :: ls) = _
    rw [sumLen_cons, sumLen_cons, List.length_append, List.length_singleton]; omega
  | l :: ls, tm + 1, row, e, h => by
    have h' : ls[tm]? = some row := by simpa using h
    show sumLen (l :: ls.set tm (row ++ [e])) = _
    rw [sumLen_cons, sumLen_cons, sumLen_set h']; omega
def neId (id : XId) (y : XId) : Bool := !(sameX y.ints id.ints)
theorem neId_not {id y : XId} (h : y ≠ id) : neId id y = true := by
  unfold neId
  rw [XId.same, sameX_no.2 h]; rfl
theorem idxF_at {α : Type} {p : α → Bool} {x : α} (hx : p x = true) : ∀ {a b : List α} {i : Nat}, (∀ y ∈ a, p y = false) → idxF p (a ++ x :: b) i = .ofNat (i + a.length)
  | [], b, i, _ => by
    show (bif p x then Int.ofNat i else _) = _
    rw [hx]; rfl
  | y :: a, b, i, h => by
    show (bif p y then Int.ofNat i else idxF p (a ++ x :: b) (i + 1)) = _
    rw [h y (List.mem_cons_self ..)]
    show idxF p (a ++ x :: b) (i + 1) = _
    rw [idxF_at hx fun z hz => h z (List.mem_cons_of_mem _ hz), List.length_cons, show i + 1 + a.length = i + (a.length + 1) by omega]
theorem filter_all {id : XId} {l : List XId} (h : id ∉ l) : l.filter (neId id) = l := List.filter_eq_self.2 fun y hy => neId_not fun e => h (e ▸ hy)
theorem filter_mid {id : XId} {a b : List XId} (ha : id ∉ a) (hb : id ∉ b) : (a ++ id :: b).filter (neId id) = a ++ b := by
  have h : neId id id = false := by unfold neId; rw [XId.same, sameX_iff.2 rfl]; rfl
  grind [filter_all]
theorem add_facts {g h : XG} {th pl : Int} {e : XEv} {fr : XId} (ha : addG g th e fr pl = (some h, 0)) : ∃ (tm : Nat) (row : List XEv), th = .ofNat (tm + 1) ∧ g.threads[tm]? = some row ∧ checkI g = 0 ∧ checkI h = 0 ∧ evAt h ⟨.ofNat (tm + 1), .ofNat row.length⟩ = some e ∧ countG h = countG g + 1 ∧
    (ltI 0 pl = true → writesB e = true ∧ idxF (fun y => sameX (⟨.ofNat (tm + 1), .ofNat row.length⟩ : XId).ints y.ints) (writesG h e.loc) 0 = pl) ∧ (∀ id w, evAt g id = some w → evAt h id = some w) ∧
    ∀ loc : Nat, loc < g.init.length → (writesG h (.ofNat loc)).filter (neId ⟨.ofNat (tm + 1), .ofNat row.length⟩) = writesG g (.ofNat loc) := by
  obtain ⟨hg, tm, row, frow, rfl, k1, q1, l1, p1, rfl, ch⟩ := addG_inv ha
  have rg := right_iff.1 hg
  have e1 : eqI (checkI g) 0 = true := by rw [hg]; rfl
  have e2 : eqI (checkI (grownG g tm e fr pl row frow)) 0 = true := by rw [ch]; rfl
  have hno : ∀ (ln : Nat) (r : List XId), g.order[ln]? = some r → (⟨.ofNat (tm + 1), .ofNat row.length⟩ : XId) ∉ (⟨0, .ofNat ln⟩ : XId) :: r := fun ln r hr hm => by
    rcases List.mem_cons.1 hm with hm | hm
    · grind
    · exact new_not rg k1 hr hm
  have hat : writesB e = true → ∃ (ln pm : Nat) (r : List XId), e.loc = .ofNat ln ∧ pl = .ofNat (pm + 1) ∧ g.order[ln]? = some r ∧ pm ≤ r.length ∧ writesG (grownG g tm e fr pl row frow) (.ofNat ln) = (⟨0, .ofNat ln⟩ :: r.take pm) ++ ⟨.ofNat (tm + 1), .ofNat row.length⟩ :: r.drop pm := fun hw => by
    obtain ⟨ln, r, h1, h2, h3⟩ := badPlace_loc p1 hw
    unfold badPlace at p1
    rw [hw] at p1
    have p1 : (bif ltI pl 1 then true else ltI (.ofNat (writesG g e.loc).length) pl) = false := p1
    cases h4 : ltI pl 1 with
    | true => simp_all
    | false =>
      rw [h4] at p1
      obtain ⟨pm, rfl⟩ := pos_of h4
      have h5 : ltI (.ofNat (writesG g e.loc).length) (.ofNat (pm + 1)) = false := p1
      have h6 := lt_no h5
      refine ⟨ln, pm, r, h1, rfl, h2, by omega, ?_⟩
      have h7 : (grownG g tm e fr (.ofNat (pm + 1)) row frow).order[ln]? = some (r.take pm ++ ⟨.ofNat (tm + 1), .ofNat row.length⟩ :: r.drop pm) := by
        rw [grown_w hw h1 h2]
        grind
      rw [writesG_at e2 h7]; rfl
  refine ⟨tm, row, rfl, k1, hg, ch, evAt_new k1 rfl, ?_, fun hp => ?_, fun id w hw => evAt_old k1 rfl rfl hw, fun loc hloc => ?_⟩
  · unfold countG
    rw [e1, e2]
    show g.init.length + sumLen (g.threads.set tm (row ++ [e])) = g.init.length + sumLen g.threads + 1
    rw [sumLen_set k1]; omega
  · have hw : writesB e = true := by
      cases hw : writesB e with
      | true => rfl
      | false =>
        unfold badPlace at p1
        rw [hw] at p1
        have p1 : (!eqI pl 0) = false := p1
        have := eq0 (not_f p1)
        subst this
        cases hp
    refine ⟨hw, ?_⟩
    obtain ⟨ln, pm, r, h1, rfl, h3, h4, h5⟩ := hat hw
    rw [h1, h5, idxF_at (p := fun y : XId => sameX (⟨.ofNat (tm + 1), .ofNat row.length⟩ : XId).ints y.ints) (sameX_iff.2 rfl) fun y hy => sameX_no.2 fun he => ?_]
    · simp_all
    · have hy' : y = (⟨.ofNat (tm + 1), .ofNat row.length⟩ : XId) := by
        have : sameX y.ints (⟨.ofNat (tm + 1), .ofNat row.length⟩ : XId).ints = true := sameX_iff.2 he.symm
        rw [XId.same] at this
        exact sameX_iff.1 this
      grind
  · obtain ⟨r, hr⟩ := at_of (show loc < g.order.length by rw [rg.order]; exact hloc)
    rw [writesG_at e1 hr]
    by_cases hw : writesB e = true ∧ e.loc.toNat = loc
    · obtain ⟨ln, pm, r', h1, rfl, h3, h4, h5⟩ := hat hw.1
      grind [filter_mid, List.take_append_drop]
    · have h7 : (grownG g tm e fr pl row frow).order[loc]? = some r := by
        show (ordW g.order e ⟨.ofNat (tm + 1), .ofNat row.length⟩ pl)[loc]? = _
        rw [ordW_at fun h1 h2 => hw ⟨h1, h2⟩, hr]
      rw [writesG_at e2 h7, filter_all (hno loc r hr)]
def digN : List Nat → Nat → Option Nat
  | [], n => some n
  | c :: r, n => if 48 ≤ c ∧ c ≤ 57 then digN r (10 * n + (c - 48)) else none
def regN (s : List Nat) : Option Nat := if s.length = 0 ∨ 4 < s.length ∨ (1 < s.length ∧ s[0]? = some 48) then none else digN s 0
def truthI (b : Bool) : Int := bif b then 1 else 0
def bitI (f : BitVec 64 → BitVec 64 → BitVec 64) (a b : Int) : Int := wr .i64 (IntKind.u64.wrap (f (BitVec.ofInt 64 (wr .u64 a)) (BitVec.ofInt 64 (wr .u64 b))).toNat)
def oneI (op a : Int) : Int := bif eqI op 3 then wr .i64 (wr .u64 (Int.sub 0 (wr .u64 a))) else truthI (eqI a 0)
def twoI (op a b : Int) : Int :=
  bif eqI op 5 then truthI (bif notB (eqI a 0) then true else notB (eqI b 0)) else
  bif eqI op 6 then truthI (bif notB (eqI a 0) then notB (eqI b 0) else false) else
  bif eqI op 7 then truthI (eqI a b) else
  bif eqI op 8 then truthI (notB (eqI a b)) else
  bif eqI op 9 then truthI (ltI a b) else
  bif eqI op 10 then truthI (notB (ltI b a)) else
  bif eqI op 11 then bitI (· ||| ·) a b else
  bif eqI op 12 then bitI (· ^^^ ·) a b else
  bif eqI op 13 then bitI (· &&& ·) a b else
  bif eqI op 14 then wr .i64 (wr .u64 (Int.add (wr .u64 a) (wr .u64 b))) else
  bif eqI op 15 then wr .i64 (wr .u64 (Int.sub (wr .u64 a) (wr .u64 b))) else
  wr .i64 (wr .u64 (Int.mul (wr .u64 a) (wr .u64 b)))
def doE (op : Int) (l : List Int) : Int × Int :=
  bif (bif (bif eqI op 3 then true else eqI op 4) then eqI (.ofNat l.length) 1 else false) then (oneI op ((l[0]?).getD 0), 0) else
  bif (bif (bif notB (ltI op 5) then notB (ltI 16 op) else false) then eqI (.ofNat l.length) 2 else false) then (twoI op ((l[0]?).getD 0) ((l[1]?).getD 0), 0) else (0, 2)
def doI (op : Int) (l : List Int) : Int := (doE op l).1
def evalX (regs : List Int) : Nat → XE → Int
  | 0, _ => 0
  | k + 1, .mk op num name kids => bif eqI op 1 then num else bif eqI op 2 then (regs[(regN name).getD 0]?).getD 0 else doI op (kids.map (evalX regs k))
def kidsN (op : Int) : Int := bif (bif eqI op 3 then true else eqI op 4) then 1 else 2
def rightE (regs : Int) : Nat → XE → Bool
  | 0, _ => false
  | k + 1, .mk op num name kids =>
    bif eqI op 1 then (bif notB (ltI num 0) then (bif eqS name [] then eqI (.ofNat kids.length) 0 else false) else false) else
    bif eqI op 2 then (match regN name with | some n => (bif ltI (.ofNat n) regs then (bif eqI num 0 then eqI (.ofNat kids.length) 0 else false) else false) | none => false) else
    bif (bif (bif eqI op 3 then true else eqI op 4) then false else (bif ltI op 5 then true else ltI 16 op)) then false else
    bif (bif notB (eqI num 0) then true else bif notB (eqS name []) then true else notB (eqI (.ofNat kids.length) (kidsN op))) then false else
    kids.all (rightE regs k)
def smallL (f : XE → Int → Option Int) : List XE → Int → Option Int
  | [], m => some m
  | x :: r, m => (f x m).bind (smallL f r)
def smallK : Nat → XE → Int → Int → Option Int
  | 0, _, _, _ => none
  | k + 1, .mk _ _ _ kids, deep, size => bif (bif ltI 2000 (wr .i64 (Int.add size 1)) then true else ltI 32 deep) then none else smallL (fun x m => smallK k x (wr .i64 (Int.add deep 1)) m) kids (wr .i64 (Int.add size 1))
structure InShape where
  reg : Bool
  loc : Bool
  order : Bool
  to : Bool
  exprs : Nat
def shapesL : List InShape := [⟨false, false, false, false, 0⟩, ⟨true, false, false, false, 1⟩, ⟨true, true, true, false, 0⟩, ⟨false, true, true, false, 1⟩, ⟨true, true, true, false, 2⟩, ⟨true, true, true, false, 1⟩, ⟨true, true, true, false, 1⟩, ⟨false, false, true, false, 0⟩, ⟨false, false, false, false, 1⟩, ⟨false, false, false, false, 1⟩, ⟨false, false, false, true, 0⟩, ⟨false, false, false, true, 1⟩, ⟨false, false, false, false, 0⟩, ⟨false, false, false, false, 0⟩]
def withinB (n least most : Int) (must : Bool) : Bool := bif must then (bif notB (ltI n least) then ltI n most else false) else eqI n 0
def rightSh (regs nins : Int) (k : Nat) (x : XI) (h : InShape) : Bool :=
  bif notB (withinB x.reg 0 regs h.reg) then false else bif notB (withinB x.loc 0 6 h.loc) then false else bif notB (withinB x.order 1 7 h.order) then false else bif notB (withinB x.to 0 nins h.to) then false else
  bif notB (eqI (.ofNat x.exprs.length) (.ofNat h.exprs)) then false else x.exprs.all (rightE regs k)
def rightX (regs nins : Int) (k : Nat) (x : XI) : Bool :=
  bif ltI x.kind 1 then false else bif ltI 13 x.kind then false else
  match shapesL[x.kind.toNat]? with
  | some h => rightSh regs nins k x h
  | none => false
def smallX (k : Nat) (x : XI) : Bool := x.exprs.all fun e => (smallK k e 1 0).isSome
def lastOK (x : XI) : Bool := bif eqI x.kind 10 then true else bif eqI x.kind 12 then true else eqI x.kind 13
def irCheck (k : Nat) (c : XC) : Int :=
  bif ltI 16 c.regs then 3 else bif ltI 4000 (.ofNat c.ins.length) then 3 else
  bif notB (c.ins.all (smallX k)) then 3 else
  bif ltI c.regs 0 then 2 else bif eqI (.ofNat c.ins.length) 0 then 2 else
  bif notB (c.ins.all (rightX c.regs (.ofNat c.ins.length) k)) then 2 else
  match c.ins[c.ins.length - 1]? with
  | some x => bif lastOK x then 0 else 2
  | none => 2
def nextI (x : XI) (at_ : Nat) : List Int :=
  bif eqI x.kind 10 then [x.to] else bif eqI x.kind 11 then [.ofNat (at_ + 1), x.to] else bif eqI x.kind 12 then [] else bif eqI x.kind 13 then [] else [.ofNat (at_ + 1)]
def nextN (c : XC) (i : Nat) : List Nat := match c.ins[i]? with | some x => (nextI x i).map Int.toNat | none => []
structure DS where
  st : List Nat
  gone : List Nat
  out : List Nat
  path : List Nat
def dstep (nx : Nat → List Nat) (s : DS) (at_ : Nat) : Option DS :=
  let g := (s.gone[at_]?).getD 0
  match (nx at_)[g]? with
  | none => some { s with st := s.st.set at_ 2, out := s.out ++ [at_], path := s.path.dropLast }
  | some to =>
    let s' := { s with gone := s.gone.set at_ (g + 1) }
    if (s.st[to]?).getD 0 = 2 then some s' else if (s.st[to]?).getD 0 = 1 then none else some { s' with st := s.st.set to 1, path := s.path ++ [to] }
def dfs (nx : Nat → List Nat) : Nat → DS → Option (List Nat)
  | 0, _ => none
  | f + 1, s => match s.path.getLast? with
    | none => some s.out
    | some at_ => (dstep nx s at_).bind (dfs nx f)
def ds0 (n : Nat) : DS := ⟨(List.replicate n 0).set 0 1, List.replicate n 0, [], [0]⟩
def total (nx : Nat → List Nat) (n : Nat) : Nat := ((List.range n).map fun i => (nx i).length).sum
def orderX (c : XC) : Option (List Nat) := dfs (nextN c) (2 * total (nextN c) c.ins.length + 2) (ds0 c.ins.length)
def flatX (k : Nat) (c : XC) : Bool := bif notB (eqI (irCheck k c) 0) then false else (orderX c).isSome
structure DWF (nx : Nat → List Nat) (n : Nat) (s : DS) : Prop where
  stL : s.st.length = n
  goneL : s.gone.length = n
  gone : ∀ (i g : Nat), s.gone[i]? = some g → g ≤ (nx i).length
  path : ∀ i ∈ s.path, i < n ∧ s.st[i]? = some 1
  out : ∀ i ∈ s.out, i < n
  nodup : s.path.Nodup
  fresh : ∀ (i g : Nat), s.st[i]? = some 0 → s.gone[i]? = some g → g = 0
  done : ∀ (i : Nat), s.st[i]? = some 2 → i ∈ s.out
  ranked : ∀ (k i : Nat), s.out[k]? = some i → ∀ to ∈ nx i, ∃ k', k' < k ∧ s.out[k']? = some to
  ways : ∀ (j p g : Nat), s.path[j]? = some p → s.gone[p]? = some g → ∀ (m to : Nat), m < g → (nx p)[m]? = some to → to ∈ s.out ∨ s.path[j + 1]? = some to
  zero : 0 ∈ s.out ∨ 0 ∈ s.path
  size : ∀ (i g : Nat), s.st[i]? = some g → g ≤ 2
def leftD (nx : Nat → List Nat) (n : Nat) (s : DS) : Nat := 2 * (total nx n - s.gone.sum) + s.path.length
section
variable {nx : Nat → List Nat} {n : Nat} {s s' : DS}
theorem sum_set : ∀ {l : List Nat} {i g g' : Nat}, l[i]? = some g → (l.set i g').sum + g = l.sum + g'
  | [], _, _, _, h => by simp at h
  | x :: l, 0, g, g', h => by
    simp only [List.getElem?_cons_zero, Option.some.injEq] at h
    subst h
    simp only [List.set_cons_zero, List.sum_cons]; omega
  | x :: l, i + 1, g, g', h => by
    have := sum_set (l := l) (i := i) (g := g) (g' := g') (by simpa using h)
    simp only [List.set_cons_succ, List.sum_cons]; omega
theorem sum_le' {f : Nat → Nat} : ∀ (l : List Nat) (k : Nat), (∀ i g, l[i]? = some g → g ≤ f (k + i)) → l.sum ≤ ((List.range' k l.length).map f).sum
  | [], _, _ => by simp
  | x :: l, k, h => by
    have h0 := h 0 x rfl
    have := sum_le' l (k + 1) (fun i g hg => by have := h (i + 1) g (by simpa using hg); rwa [show k + 1 + i = k + (i + 1) by omega])
    simp only [List.length_cons, List.range'_succ, List.map_cons, List.sum_cons]
    grind
theorem ds0_wf (hn : 0 < n) : DWF nx n (ds0 n) where
  stL := by simp [ds0]
  goneL := by simp [ds0]
  gone i g hg := by
    have : g = 0 := by
      have := List.mem_of_getElem? hg
      exact List.eq_of_mem_replicate this
    omega
  path i hi := by
    obtain rfl : i = 0 := by simpa [ds0] using hi
    exact ⟨hn, by simp [ds0, hn]⟩
  out i hi := by simp [ds0] at hi
  nodup := by simp [ds0]
  fresh i g _ hg := List.eq_of_mem_replicate (List.mem_of_getElem? hg)
  done i hi := by
    exfalso
    have hi : ((List.replicate n 0).set 0 1)[i]? = some 2 := hi
    grind
  ranked k i hk := by simp [ds0] at hk
  ways j p g hj hg m to hm := by
    have : g = 0 := List.eq_of_mem_replicate (List.mem_of_getElem? hg)
    omega
  zero := .inr (by simp [ds0])
  size i g hg := by
    have hi : ((List.replicate n 0).set 0 1)[i]? = some g := hg
    grind
theorem nodup_at {l : List Nat} {a : Nat} {P : List Nat} (h : l.Nodup) (hl : l = P ++ [a]) {j : Nat} (hj : l[j]? = some a) : j = P.length := by
  grind
theorem dstep_wf (h : DWF nx n s) (hnx : ∀ i, i < n → ∀ to ∈ nx i, to < n) {a : Nat} (ha : s.path.getLast? = some a) (hs : dstep nx s a = some s') : DWF nx n s' ∧ leftD nx n s' + 1 ≤ leftD nx n s ∧ s'.out.length + leftD nx n s' ≤ s.out.length + leftD nx n s := by
  obtain ⟨P, hP⟩ := List.getLast?_eq_some_iff.1 ha
  have hap : a ∈ s.path := by rw [hP]; simp
  obtain ⟨han, hst⟩ := h.path a hap
  obtain ⟨g, hg⟩ : ∃ g, s.gone[a]? = some g := ⟨_, List.getElem?_eq_getElem (by rw [h.goneL]; exact han)⟩
  have hPa : ∀ i ∈ P, i ≠ a := fun i hi hh => by
    have := h.nodup; grind
  have hla : s.path[P.length]? = some a := by rw [hP]; simp
  have hlb : s.path[P.length + 1]? = none := by rw [hP]; simp
  unfold dstep at hs
  rw [hg] at hs
  simp only [Option.getD_some] at hs
  cases hto : (nx a)[g]? with
  | none =>
    rw [hto] at hs
    simp only [Option.some.injEq] at hs
    subst hs
    have hle : (nx a).length ≤ g := List.getElem?_eq_none_iff.1 hto
    have hdl : s.path.dropLast = P := by rw [hP]; simp
    refine ⟨⟨by simp [h.stL], h.goneL, h.gone, ?_, ?_, ?_, ?_, ?_, ?_, ?_, ?_, ?_⟩, ?_, ?_⟩
    · intro i hi
      have hi : i ∈ P := by simp_all
      have := h.path i (by rw [hP]; simp [hi])
      grind
    · intro i hi
      rcases List.mem_append.1 hi with hi | hi
      · exact h.out i hi
      simp_all
    · show s.path.dropLast.Nodup
      rw [hdl]; have := h.nodup; grind
    · intro i g' h1 h2
      by_cases e : i = a
      · grind
      · have h1 : (s.st.set a 2)[i]? = some 0 := h1
        rw [List.getElem?_set_ne (fun x => e x.symm)] at h1
        exact h.fresh i g' h1 h2
    · intro i hi
      show i ∈ s.out ++ [a]
      by_cases e : i = a
      · subst e; simp
      · have hi : (s.st.set a 2)[i]? = some 2 := hi
        rw [List.getElem?_set_ne (fun x => e x.symm)] at hi
        exact List.mem_append_left _ (h.done i hi)
    · intro k i hk to hto'
      have hk : (s.out ++ [a])[k]? = some i := hk
      show ∃ k', k' < k ∧ (s.out ++ [a])[k']? = some to
      by_cases hlt : k < s.out.length
      · rw [List.getElem?_append_left hlt] at hk
        obtain ⟨k', h1, h2⟩ := h.ranked k i hk to hto'
        exact ⟨k', h1, by grind⟩
      · have hlt' := (List.getElem?_eq_some_iff.1 hk).1
        simp only [List.length_append, List.length_singleton] at hlt'
        obtain rfl : k = s.out.length := by omega
        have hia : i = a := by simpa using hk.symm
        subst hia
        obtain ⟨m, hm⟩ := List.getElem?_of_mem hto'
        have hm' := (List.getElem?_eq_some_iff.1 hm).1
        rcases h.ways _ _ _ hla hg m to (by omega) hm with h1 | h1
        · grind [List.getElem?_of_mem]
        simp_all
    · intro j p g' hj hg' m to hm hmt
      have hj : s.path.dropLast[j]? = some p := hj
      rw [hdl] at hj
      have hjl := (List.getElem?_eq_some_iff.1 hj).1
      show to ∈ s.out ++ [a] ∨ s.path.dropLast[j + 1]? = some to
      rcases h.ways j p g' (by grind) hg' m to hm hmt with h1 | h1
      · simp_all
      grind
    · show 0 ∈ s.out ++ [a] ∨ 0 ∈ s.path.dropLast
      rw [hdl]
      rcases h.zero with h1 | h1
      · simp_all
      grind
    · intro i g' hi
      have hi : (s.st.set a 2)[i]? = some g' := hi
      rw [List.getElem?_set] at hi
      split at hi
      · simp_all
      · exact h.size i g' hi
    · grind [leftD]
    grind [leftD]
  | some to =>
    rw [hto] at hs
    dsimp only at hs
    have hgl : g < (nx a).length := (List.getElem?_eq_some_iff.1 hto).1
    have hton : to < n := hnx a han to (List.mem_of_getElem? hto)
    obtain ⟨v, hv⟩ : ∃ v, s.st[to]? = some v := ⟨_, List.getElem?_eq_getElem (by rw [h.stL]; exact hton)⟩
    rw [hv] at hs
    simp only [Option.getD_some] at hs
    have hgone : ∀ (i g' : Nat), (s.gone.set a (g + 1))[i]? = some g' → g' ≤ (nx i).length := fun i g' hi => by
      rw [List.getElem?_set] at hi
      split at hi
      · grind
      · exact h.gone i g' hi
    have hsum := sum_set (l := s.gone) (i := a) (g := g) (g' := g + 1) hg
    have hlt : (s.gone.set a (g + 1)).sum ≤ total nx n := by
      have := sum_le' (f := fun i => (nx i).length) (s.gone.set a (g + 1)) 0 (fun i g' hg' => by simp_all)
      rw [List.length_set, h.goneL] at this
      unfold total
      rwa [List.range_eq_range']
    have hother : ∀ (p g' : Nat), p ≠ a → (s.gone.set a (g + 1))[p]? = some g' → s.gone[p]? = some g' := fun p g' hp hg' => by
      grind
    have hself : ∀ (g' : Nat), (s.gone.set a (g + 1))[a]? = some g' → g' = g + 1 := fun g' hg' => by
      grind
    split at hs
    · rename_i hv2
      subst hv2
      simp only [Option.some.injEq] at hs
      subst hs
      refine ⟨⟨h.stL, by simp [h.goneL], hgone, h.path, h.out, h.nodup, ?_, h.done, h.ranked, ?_, h.zero, h.size⟩, ?_, ?_⟩
      · intro i g' h1 h2
        refine h.fresh i g' h1 (hother i g' (fun e => ?_) h2)
        simp_all
      · intro j p g' hj hg' m to' hm hmt
        by_cases hp : p = a
        · subst hp
          obtain rfl := hself g' hg'
          by_cases hmg : m < g
          · exact h.ways j p g hj hg m to' hmg hmt
          · obtain rfl : m = g := by omega
            rw [hto] at hmt
            cases hmt
            exact .inl (h.done _ hv)
        · exact h.ways j p g' hj (hother p g' hp hg') m to' hm hmt
      · unfold leftD; dsimp only; omega
      · unfold leftD; dsimp only; omega
    · split at hs
      · cases hs
      · rename_i hv2 hv1
        simp only [Option.some.injEq] at hs
        subst hs
        have hv0 : v = 0 := by have := h.size to v hv; omega
        subst hv0
        have htop : to ∉ s.path := fun hh => by have := (h.path to hh).2; simp_all
        have hta : to ≠ a := fun e => htop (by rw [e]; exact hap)
        have hstn : ∀ i, i ≠ to → (s.st.set to 1)[i]? = s.st[i]? := fun i hi => List.getElem?_set_ne (fun e => hi e.symm)
        refine ⟨⟨by simp [h.stL], by simp [h.goneL], hgone, ?_, h.out, ?_, ?_, ?_, h.ranked, ?_, ?_, ?_⟩, ?_, ?_⟩
        · intro i hi
          rcases List.mem_append.1 hi with hi | hi
          · obtain ⟨h1, h2⟩ := h.path i hi
            grind
          grind
        · show (s.path ++ [to]).Nodup
          refine List.nodup_append.2 ⟨h.nodup, by simp, fun x hx y hy => ?_⟩
          grind
        · intro i g' h1 h2
          by_cases e : i = to
          · grind
          · have h1b : (s.st.set to 1)[i]? = some 0 := h1
            rw [hstn i e] at h1b
            refine h.fresh i g' h1b (hother i g' (fun e => ?_) h2)
            simp_all
        · intro i hi
          by_cases e : i = to
          · grind
          · have hi : (s.st.set to 1)[i]? = some 2 := hi
            rw [hstn i e] at hi
            exact h.done i hi
        · intro j p g' hj hg' m to' hm hmt
          have hjb : (s.path ++ [to])[j]? = some p := hj
          clear hj
          have hj := hjb
          clear hjb
          show to' ∈ s.out ∨ (s.path ++ [to])[j + 1]? = some to'
          by_cases hjl : j < s.path.length
          · rw [List.getElem?_append_left hjl] at hj
            by_cases hp : p = a
            · subst hp
              obtain rfl := hself g' hg'
              have hjP := nodup_at h.nodup hP hj
              by_cases hmg : m < g
              · rcases h.ways j p g hj hg m to' hmg hmt with h1 | h1
                · exact .inl h1
                simp_all
              grind
            · rcases h.ways j p g' hj (hother p g' hp hg') m to' hm hmt with h1 | h1
              · exact .inl h1
              grind
          · have hlt' := (List.getElem?_eq_some_iff.1 hj).1
            simp only [List.length_append, List.length_singleton] at hlt'
            obtain rfl : j = s.path.length := by omega
            have hpt : to = p := by simpa using hj
            subst hpt
            have := h.fresh to g' hv (hother to g' hta hg')
            omega
        · rcases h.zero with h1 | h1
          · exact .inl h1
          grind
        · intro i g' hi
          have hi : (s.st.set to 1)[i]? = some g' := hi
          rw [List.getElem?_set] at hi
          split at hi
          · grind
          · exact h.size i g' hi
        · grind [leftD]
        grind [leftD]
structure Ranked (nx : Nat → List Nat) (n : Nat) (out : List Nat) : Prop where
  rank : ∀ (k i : Nat), out[k]? = some i → ∀ to ∈ nx i, ∃ k', k' < k ∧ out[k']? = some to
  zero : 0 ∈ out
  lt : ∀ i ∈ out, i < n
theorem dfs_ranked (hnx : ∀ i, i < n → ∀ to ∈ nx i, to < n) : ∀ {f : Nat} {s : DS} {out : List Nat}, DWF nx n s → dfs nx f s = some out → Ranked nx n out
  | 0, _, _, _, h => by cases h
  | f + 1, s, out, hw, h => by
    unfold dfs at h
    cases hl : s.path.getLast? with
    | none =>
      rw [hl] at h
      simp only [Option.some.injEq] at h
      subst h
      have : s.path = [] := List.getLast?_eq_none_iff.1 hl
      exact ⟨hw.ranked, by rcases hw.zero with h1 | h1; exact h1; rw [this] at h1; simp at h1, hw.out⟩
    | some a =>
      rw [hl] at h
      dsimp only at h
      cases hd : dstep nx s a with
      | none => rw [hd] at h; cases h
      | some s' => rw [hd] at h; exact dfs_ranked hnx (dstep_wf hw hnx hl hd).1 h
end
structure TS where
  at_ : Nat
  regs : List Int
  events : List XEv
  asked : Nat
  fin : Int
  asks : Bool
def exprV (k : Nat) (regs : List Int) (x : XI) (i : Nat) : Int := ((x.exprs[i]?).map (evalX regs k)).getD 0
def stepI (k : Nat) (x : XI) (s : TS) : TS × Bool :=
  bif eqI x.kind 1 then ({ s with regs := s.regs.set x.reg.toNat (exprV k s.regs x 0), at_ := s.at_ + 1 }, true) else
  bif eqI x.kind 3 then ({ s with events := s.events ++ [⟨2, x.loc, x.order, 0, exprV k s.regs x 0⟩], at_ := s.at_ + 1 }, true) else
  bif eqI x.kind 7 then ({ s with events := s.events ++ [⟨4, 0, x.order, 0, 0⟩], at_ := s.at_ + 1 }, true) else
  bif eqI x.kind 8 then (bif eqI (exprV k s.regs x 0) 0 then ({ s with fin := 2 }, false) else ({ s with at_ := s.at_ + 1 }, true)) else
  bif eqI x.kind 9 then (bif eqI (exprV k s.regs x 0) 0 then ({ s with fin := 3 }, false) else ({ s with at_ := s.at_ + 1 }, true)) else
  bif eqI x.kind 10 then ({ s with at_ := x.to.toNat }, true) else
  bif eqI x.kind 11 then (bif eqI (exprV k s.regs x 0) 0 then ({ s with at_ := x.to.toNat }, true) else ({ s with at_ := s.at_ + 1 }, true)) else
  bif eqI x.kind 12 then ({ s with fin := 4 }, false) else
  bif eqI x.kind 13 then ({ s with fin := 1 }, false) else
  ({ s with asks := true }, false)
def stepC (k : Nat) (c : XC) (s : TS) : TS × Bool := match c.ins[s.at_]? with | some x => stepI k x s | none => (s, false)
def goX (k : Nat) (c : XC) : Nat → TS → TS
  | 0, s => s
  | f + 1, s => bif (stepC k c s).2 then goX k c f (stepC k c s).1 else (stepC k c s).1
def fuelX (c : XC) : Nat := ((orderX c).getD []).length
def beginX (k : Nat) (c : XC) : TS := goX k c (fuelX c) ⟨0, List.replicate c.regs.toNat 0, [], 0, 0, false⟩
structure XAsk where
  kind : Int
  loc : Int
  order : Int
  a : Int
  b : Int
def XAsk.ints (x : XAsk) : List Int := [x.kind, x.loc, x.order, x.a, x.b]
def askI (k : Nat) (x : XI) (regs : List Int) : XAsk := ⟨x.kind, x.loc, x.order, exprV k regs x 0, exprV k regs x 1⟩
def askX (k : Nat) (c : XC) (s : TS) : XAsk := match c.ins[s.at_]? with | some x => askI k x s.regs | none => ⟨0, 0, 0, 0, 0⟩
def answerI (a : XAsk) (v : Int) : XEv :=
  bif eqI a.kind 2 then ⟨1, a.loc, a.order, v, 0⟩ else
  bif eqI a.kind 4 then (bif eqI v a.a then ⟨3, a.loc, a.order, v, a.b⟩ else ⟨1, a.loc, a.order, v, 0⟩) else
  bif eqI a.kind 5 then ⟨3, a.loc, a.order, v, wr .i64 (wr .u64 (Int.add (wr .u64 v) (wr .u64 a.a)))⟩ else
  bif eqI a.kind 6 then ⟨3, a.loc, a.order, v, a.a⟩ else ⟨0, 0, 0, 0, 0⟩
def regAt (c : XC) (s : TS) : Nat := match c.ins[s.at_]? with | some x => x.reg.toNat | none => 0
def answered (k : Nat) (c : XC) (s : TS) (v : Int) : TS :=
  { s with events := s.events ++ [answerI (askX k c s) v], regs := s.regs.set (regAt c s) v, asked := s.asked + 1, at_ := s.at_ + 1, asks := false }
def answerX (k : Nat) (c : XC) (s : TS) (v : Int) : TS := goX k c (fuelX c) (answered k c s v)
def runA (k : Nat) (c : XC) : List Int → TS → TS
  | [], s => s
  | v :: r, s => bif s.asks then runA k c r (answerX k c s v) else s
def readsL (l : List XEv) : List Int := (l.filter readsB).map XEv.read
def runC (k : Nat) (c : XC) (a : List Int) : TS := runA k c a (beginX k c)
def fitsT (s : TS) (l : List XEv) : Bool := bif ltI (.ofNat s.events.length) (.ofNat l.length) then false else sameX (s.events.take l.length) l
def checkX (k : Nat) (c : XC) : Int := bif flatX k c then 0 else bif notB (eqI (irCheck k c) 0) then irCheck k c else 2
structure XNext where
  event : XEv
  ask : XAsk
  fin : Int
def noEv : XEv := ⟨0, 0, 0, 0, 0⟩
def noAsk : XAsk := ⟨0, 0, 0, 0, 0⟩
def noNext : XNext := ⟨noEv, noAsk, 0⟩
def nextT (k : Nat) (c : XC) (s : TS) (l : List XEv) : XNext × Int :=
  bif notB (fitsT s l) then (noNext, 2) else
  match s.events[l.length]? with
  | some e => (⟨e, noAsk, 0⟩, 0)
  | none => bif s.asks then (⟨noEv, askX k c s, 0⟩, 0) else (⟨noEv, noAsk, s.fin⟩, 0)
def nextM (k : Nat) (c : XC) (l : List XEv) : XNext × Int :=
  bif notB (eqI (checkX k c) 0) then (noNext, checkX k c) else nextT k c (runC k c (readsL l)) l
structure CodeOK (k : Nat) (c : XC) : Prop where
  regs0 : 0 ≤ c.regs
  regs16 : c.regs ≤ 16
  len : c.ins.length ≤ 4000
  pos : 0 < c.ins.length
  right : ∀ x ∈ c.ins, rightX c.regs (.ofNat c.ins.length) k x = true
  last : ∀ x, c.ins[c.ins.length - 1]? = some x → lastOK x = true
theorem codeOK {k : Nat} {c : XC} (h : irCheck k c = 0) : CodeOK k c := by
  unfold irCheck at h
  cases h1 : ltI 16 c.regs with
  | true => rw [h1] at h; cases h
  | false =>
  rw [h1] at h
  cases h2 : ltI 4000 (.ofNat c.ins.length) with
  | true => rw [h2] at h; cases h
  | false =>
  rw [h2] at h
  cases h3 : notB (c.ins.all (smallX k)) with
  | true => rw [h3] at h; cases h
  | false =>
  rw [h3] at h
  cases h4 : ltI c.regs 0 with
  | true => rw [h4] at h; cases h
  | false =>
  rw [h4] at h
  cases h5 : eqI (.ofNat c.ins.length) 0 with
  | true => rw [h5] at h; cases h
  | false =>
  rw [h5] at h
  cases h6 : notB (c.ins.all (rightX c.regs (.ofNat c.ins.length) k)) with
  | true => rw [h6] at h; cases h
  | false =>
  rw [h6] at h
  simp only [cond_false] at h
  rw [ltI_eq, decide_eq_false_iff_not] at h1 h2 h4
  have h2 : ¬ (4000 : Int) < (c.ins.length : Int) := h2
  have hp : 0 < c.ins.length := by
    grind
  refine ⟨by omega, by omega, by omega, hp, fun x hx => ?_, fun x hx => ?_⟩
  · have h6 := notB_f h6
    simp_all
  grind
theorem rightX_sh {regs nins : Int} {k : Nat} {x : XI} (h : rightX regs nins k x = true) : ∃ (n : Nat) (sh : InShape), x.kind = .ofNat n ∧ 1 ≤ n ∧ n ≤ 13 ∧ shapesL[n]? = some sh ∧ rightSh regs nins k x sh = true := by
  unfold rightX at h
  cases h1 : ltI x.kind 1 with
  | true => rw [h1] at h; cases h
  | false =>
  rw [h1] at h
  cases h2 : ltI 13 x.kind with
  | true => rw [h2] at h; cases h
  | false =>
  rw [h2] at h
  simp only [cond_false] at h
  rw [ltI_eq, decide_eq_false_iff_not] at h1 h2
  grind
theorem within_must {n least most : Int} (h : withinB n least most true = true) : least ≤ n ∧ n < most := by
  unfold withinB at h
  simp only [cond_true] at h
  cases h1 : ltI n least with
  | true => rw [h1] at h; cases h
  | false =>
  rw [h1] at h
  have h : ltI n most = true := h
  rw [ltI_eq, decide_eq_false_iff_not] at h1
  rw [ltI_eq, decide_eq_true_iff] at h
  omega
structure RightSh (regs nins : Int) (k : Nat) (x : XI) (sh : InShape) : Prop where
  reg : withinB x.reg 0 regs sh.reg = true
  loc : withinB x.loc 0 6 sh.loc = true
  order : withinB x.order 1 7 sh.order = true
  to : withinB x.to 0 nins sh.to = true
  exprs : x.exprs.length = sh.exprs
  all : ∀ e ∈ x.exprs, rightE regs k e = true
theorem rightSh_of {regs nins : Int} {k : Nat} {x : XI} {sh : InShape} (h : rightSh regs nins k x sh = true) : RightSh regs nins k x sh := by
  unfold rightSh at h
  cases h1 : withinB x.reg 0 regs sh.reg with
  | false => rw [h1] at h; cases h
  | true =>
  cases h2 : withinB x.loc 0 6 sh.loc with
  | false => rw [h1, h2] at h; cases h
  | true =>
  cases h3 : withinB x.order 1 7 sh.order with
  | false => rw [h1, h2, h3] at h; cases h
  | true =>
  cases h4 : withinB x.to 0 nins sh.to with
  | false => rw [h1, h2, h3, h4] at h; cases h
  | true =>
  rw [h1, h2, h3, h4] at h
  have h : (bif notB (eqI (.ofNat x.exprs.length) (.ofNat sh.exprs)) then false else x.exprs.all (rightE regs k)) = true := h
  cases h5 : eqI (.ofNat x.exprs.length) (.ofNat sh.exprs) with
  | false => rw [h5] at h; cases h
  | true =>
  rw [h5] at h
  have h : x.exprs.all (rightE regs k) = true := h
  rw [eqI_nat, decide_eq_true_iff] at h5
  exact ⟨h1, h2, h3, h4, h5, List.all_eq_true.1 h⟩
theorem next_lt {k : Nat} {c : XC} (h : CodeOK k c) : ∀ i, i < c.ins.length → ∀ to ∈ nextN c i, to < c.ins.length := by
  intro i hi to hto
  unfold nextN at hto
  rw [List.getElem?_eq_getElem hi] at hto
  dsimp only at hto
  have hx := h.right c.ins[i] (List.getElem_mem hi)
  have hl := h.last
  generalize hxe : c.ins[i] = x at hto hx
  obtain ⟨n, sh, hn, n1, n13, hsh, hr⟩ := rightX_sh hx
  have hr := rightSh_of hr
  have hto' := hr.to
  have hlast : i + 1 < c.ins.length ∨ lastOK x = true := by
    grind
  unfold nextI at hto
  unfold lastOK at hlast
  rw [hn] at hto hlast
  have key : ∀ m : Nat, m = n → (∀ y, (sh.to = true → 0 ≤ y ∧ y < (c.ins.length : Int)) → y = x.to → True) := fun _ _ _ _ _ => trivial
  have tole : sh.to = true → 0 ≤ x.to ∧ x.to < (c.ins.length : Int) := fun e => by rw [e] at hto'; exact within_must hto'
  match n, n1, n13 with
  | 1, _, _ | 2, _, _ | 3, _, _ | 4, _, _ | 5, _, _ | 6, _, _ | 7, _, _ | 8, _, _ | 9, _, _ =>
    have e : to = i + 1 := List.mem_singleton.1 (show to ∈ [i + 1] from hto)
    rcases hlast with e1 | e1
    · omega
    · cases e1
  | 10, _, _ =>
    have e : to = x.to.toNat := List.mem_singleton.1 (show to ∈ [x.to.toNat] from hto)
    have := tole (by cases hsh; rfl)
    omega
  | 11, _, _ =>
    have e : to = i + 1 ∨ to = x.to.toNat := by grind
    have := tole (by cases hsh; rfl)
    rcases e with e | e
    · rcases hlast with e1 | e1
      · omega
      · cases e1
    · omega
  | 12, _, _ | 13, _, _ => exact absurd (show to ∈ ([] : List Nat) from hto) (by simp)
theorem flat_of {k : Nat} {c : XC} (h : flatX k c = true) : CodeOK k c ∧ ∃ out, orderX c = some out ∧ Ranked (nextN c) c.ins.length out := by
  unfold flatX at h
  cases h1 : eqI (irCheck k c) 0 with
  | false => rw [h1] at h; cases h
  | true =>
    rw [h1] at h
    have h : (orderX c).isSome = true := h
    have hc := codeOK (eq0 h1)
    obtain ⟨out, ho⟩ := Option.isSome_iff_exists.1 h
    exact ⟨hc, out, ho, dfs_ranked (next_lt hc) (ds0_wf hc.pos) ho⟩
section
variable {σ : AHeap} {K : KP} {A M L : Own} {x : Nat × AObj}
theorem St.behind (h : St σ K (x :: (M ++ L))) : St σ K (M ++ x :: L) := h.perm List.perm_middle.symm
theorem St.ahead (h : St σ K (M ++ x :: L)) : St σ K (x :: (M ++ L)) := h.perm List.perm_middle
end
theorem OwnT.take2 {α : Type} {m E : Nat} {R : α → List AV → Prop} {l : List α} {u : AV} {M : Own} (h : OwnT m E R l u M) {k : Nat} (hk : k ≤ l.length) :
    ∃ u', OwnT m E R (l.take k) u' M ∧ ∀ {P : Program} {ev : Operand → Option AV} {t : TypeId} {x hi : Operand} {kk : IntKind}, P.underlying t = some (.slice E) → (P.info? E).map (·.size) = some m → ev x = some u → ev hi = some (.int kk (.ofNat k)) → sliceA P ev t x none (some hi) none = some u' := by
  rcases h with ⟨rfl, rfl, rfl⟩ | ⟨b, c, cells, e, rfl, rfl, h3, h4, h5, h6⟩
  · refine ⟨.nilSlice, .inl ⟨List.take_nil, rfl, rfl⟩, fun {P ev t x hi kk} hu hj hx hh => ?_⟩
    obtain ⟨j, hj', rfl⟩ := Option.map_eq_some_iff.1 hj
    obtain rfl : k = 0 := by simpa using hk
    have : boundsA ev 0 0 none (some hi) = some (0, 0) := bnd_hi hh (Nat.le_refl _)
    simp only [sliceA, hu, hx, hj', this]
  · have hl : (l.take k).length = k := by simp_all
    have hR : ∀ (i : Nat) (x : α), (l.take k)[i]? = some x → R x ((cells.drop (i * m)).take m) := fun i x hi => by
      grind
    have hle : k * m ≤ cells.length := Nat.le_trans (Nat.mul_le_mul_right _ hk) h3
    rcases h5 with ⟨n, rfl, h7, h8⟩ | ⟨rfl, rfl⟩
    · refine ⟨.slice b 0 k (.known n), .inr ⟨b, .known n, cells, e, by rw [hl], rfl, by rw [hl]; exact hle, hR, .inl ⟨n, rfl, by rw [hl]; omega, h8⟩, by rw [hl]; omega⟩, fun {P ev t x hi kk} hu hj hx hh => ?_⟩
      obtain ⟨j, hj', rfl⟩ := Option.map_eq_some_iff.1 hj
      have : boundsA ev l.length n none (some hi) = some (0, k) := bnd_hi hh (by omega)
      simp only [sliceA, hu, hx, cutAt, this, cut, hj']
      simp_all
    · refine ⟨.slice b 0 k (.upto m), .inr ⟨b, .upto m, cells, e, by rw [hl], rfl, by rw [hl]; exact hle, hR, .inr ⟨rfl, rfl⟩, by rw [hl]; omega⟩, fun {P ev t x hi kk} hu hj hx hh => ?_⟩
      obtain ⟨j, hj', rfl⟩ := Option.map_eq_some_iff.1 hj
      have : boundsA ev l.length l.length none (some hi) = some (0, k) := bnd_hi hh hk
      simp only [sliceA, hu, hx, this, hj', show Nat.beq j.size j.size = true from Nat.beq_refl _, cond_true, Nat.zero_mul, Nat.sub_zero, Nat.add_zero]
theorem OwnT.len_le {α : Type} {m E : Nat} {R : α → List AV → Prop} {l : List α} {u : AV} {M : Own} (h : OwnT m E R l u M) : l.length ≤ 1048576 := by
  rcases h with ⟨rfl, _⟩ | ⟨_, _, _, _, _, _, _, _, _, h⟩
  · exact Nat.zero_le _
  · exact h
section
variable {P : Program} {G : Cx} {σ : AHeap} {K : KP} {L : Own}
theorem x_append0 {α : Type} {m e : Nat} {R : α → List AV → Prop} {v2 : AV} {ts : Array TypeId} {t : TypeId} (hs : St σ K L) (hx : HasS K m R [] v2) (hleaf : ∀ x vs, R x vs → allLeaf vs = true)
    (ht : ts[0]? = some t) (hu : P.underlying t = some (.slice e)) (ha : appT P e m = true) (h2 : sliceOrStr P ts[1]? = true) : appendA P σ ts .nilSlice v2 = .val .nilSlice σ := by
  obtain ⟨news, s1, s2, s3, s4⟩ := source_of hs hx hleaf
  unfold appT at ha
  split at ha
  · rename_i j hj
    simp only [Bool.and_eq_true] at ha
    obtain ⟨a1, a2, a3, a4⟩ := ha
    have hm : j.size = m := Nat.eq_of_beq_eq_true a1
    subst hm
    have hz : ((P.info? e).any fun j => (j.zero.bind ofVal).any fun z => (cellsA z).any fun cs => Nat.beq (lenN cs) j.size) = true := by rw [hj]; exact a4
    unfold appendA
    rw [ht]
    dsimp only
    rw [hu]
    dsimp only
    rw [hj] at hz ⊢
    dsimp only
    rw [h2, a2, a3]
    simp only [Bool.and_self, cond_true]
    rw [s1]
    dsimp only
    rw [s3, show Nat.ble ([] : List α).length 1048576 = true from rfl, hz]
    simp_all
  · cases ha
theorem ownS_appK {α : Type} {m e : Nat} {R : α → List AV → Prop} {l l2 : List α} {u v2 : AV} {M : Own} {ts : Array TypeId} {t : TypeId} (ho : OwnS m e R l u M) (hst : St σ K (M ++ L))
    (hx : HasS K m R l2 v2) (hleaf : ∀ x vs, R x vs → allLeaf vs = true) (hn : l.length + l2.length ≤ 1048576)
    (ht : ts[0]? = some t) (hu : P.underlying t = some (.slice e)) (ha : appT P e m = true) (h2 : sliceOrStr P ts[1]? = true) :
    ∃ σ' u' M', appendA P σ ts u v2 = .val u' σ' ∧ OwnS m e R (l ++ l2) u' M' ∧ St σ' K (M' ++ L) := by
  rcases ho with ⟨rfl, rfl, rfl⟩ | ⟨b, c, cells, e', rfl, rfl, h3, h4, h5, h6⟩
  · cases l2 with
    | nil => exact ⟨σ, _, [], x_append0 hst hx hleaf ht hu ha h2, .inl ⟨rfl, rfl, rfl⟩, hst⟩
    | cons a l2 =>
      obtain ⟨news, k1, k2, k3⟩ := x_appendN (P := P) hst hx hleaf (by simp at hn ⊢; omega) (by simp) ht hu ha h2
      exact ⟨_, _, [(σ.next, .row news e false)], k1, .inr ⟨_, _, news, e, rfl, rfl, k2, k3, .inr ⟨rfl, rfl⟩, by simp at hn ⊢; omega⟩, hst.alloc (.row news e false)⟩
  · obtain ⟨σ', b', c', news, e2, k1, k2, k3, k4, k5⟩ := x_append (P := P) hst hx hleaf (by omega) h3 (by omega) h5 ht hu ha h2
    exact ⟨σ', _, [(b', .row (cells ++ news) e2 false)], k1, ownS_app h3 h4 k3 k4 rfl k5 (by omega), k2⟩
theorem ownS_app1 {α : Type} {m e : Nat} {R : α → List AV → Prop} {l l2 : List α} {u v2 : AV} {M : Own} {bv ev : Nat} {cv : List AV} {ts : Array TypeId} {t : TypeId} (ho : OwnS m e R l u M) (hst : St σ K ((bv, .row cv ev false) :: (M ++ L)))
    (hx : HasS (K.add bv (.row cv ev false)) m R l2 v2) (hleaf : ∀ x vs, R x vs → allLeaf vs = true) (hn : l.length + l2.length ≤ 1048576)
    (ht : ts[0]? = some t) (hu : P.underlying t = some (.slice e)) (ha : appT P e m = true) (h2 : sliceOrStr P ts[1]? = true) :
    ∃ σ' u' M', appendA P σ ts u v2 = .val u' σ' ∧ OwnS m e R (l ++ l2) u' M' ∧ St σ' K (M' ++ L) := by
  obtain ⟨σ', u', M', h1, h3, h4⟩ := ownS_appK ho hst.keep hx hleaf hn ht hu ha h2
  exact ⟨σ', u', M', h1, h3, h4.weaken (KP.le_add _ _ _)⟩
theorem has_one {α : Type} {m b e : Nat} {ro : Bool} {R : α → List AV → Prop} {x : α} {vs : List AV} (hm : vs.length = m) (hR : R x vs) (hk : K b (.row vs e ro)) : HasS K m R [x] (.slice b 0 1 (.known 1)) := by
  refine .inr ⟨b, 0, .known 1, vs, e, ro, rfl, .inr ⟨1, rfl, Nat.le_refl _⟩, hk, by simp [hm], by simp, fun i y hy => ?_⟩
  cases i with
  | zero =>
    grind
  | succ i => simp at hy
theorem has_one1 {α : Type} {m b e : Nat} {R : α → List AV → Prop} {x : α} {vs : List AV} (hm : vs.length = m) (hR : R x vs) : HasS (K.add b (.row vs e false)) m R [x] (.slice b 0 1 (.known 1)) := has_one hm hR (.inr ⟨rfl, rfl⟩)
theorem sliceFrom_of {α : Type} {m e k : Nat} {kk : IntKind} {R : α → List AV → Prop} {la : List α} {v : AV} {ty : TypeId} {ev : Operand → Option AV} {xo lo : Operand} (h : HasS K m R la v) (hk : k ≤ la.length) (hu : P.underlying ty = some (.slice e)) (hj : (P.info? e).map (·.size) = some m) (hx : ev xo = some v) (hh : ev lo = some (.int kk (.ofNat k))) :
    ∃ w, sliceA P ev ty xo (some lo) none none = some w ∧ HasS K m R (la.drop k) w := by
  cases hq : P.info? e with
  | none => simp_all
  | some j =>
  rw [hq] at hj
  have hj : j.size = m := by simpa using hj
  subst hj
  have hlen : (la.drop k).length = la.length - k := List.length_drop ..
  have hb : ∀ y, k ≤ y → boundA ev lo y = some k := fun y hy => by
    unfold boundA
    rw [hh]
    grind [Nat.ble_eq]
  rcases h with ⟨rfl, rfl⟩ | ⟨b, off, c, cells, e', ro, rfl, h2, h3, h4, h5, h6⟩
  · obtain rfl : k = 0 := by simpa using hk
    refine ⟨.nilSlice, ?_, .inl ⟨rfl, rfl⟩⟩
    unfold sliceA
    rw [hu, hx]
    dsimp only
    unfold boundsA
    simp_all
  · have hle : k * j.size ≤ la.length * j.size := Nat.mul_le_mul_right _ hk
    have hsub : (la.length - k) * j.size = la.length * j.size - k * j.size := Nat.sub_mul ..
    have hR : ∀ (i : Nat) (x : α), (la.drop k)[i]? = some x → R x ((cells.drop (off + k * j.size + i * j.size)).take j.size) := fun i x hx' => by
      grind
    rcases h2 with rfl | ⟨cp, rfl, hcp⟩
    · refine ⟨.slice b (off + k * j.size) (la.length - k) (.upto j.size), ?_, .inr ⟨b, _, _, cells, e', ro, by rw [hlen], .inl rfl, h3, by rw [hlen]; omega, by rw [hlen]; omega, hR⟩⟩
      grind [sliceA, boundsA, Nat.beq_refl]
    · refine ⟨.slice b (bif Nat.beq cp k then off else off + k * j.size) (la.length - k) (.known (cp - k)), ?_, ?_⟩
      · unfold sliceA
        rw [hu, hx]
        dsimp only
        unfold cutAt boundsA
        grind [cut]
      · cases hbq : Nat.beq cp k with
        | false => exact .inr ⟨b, _, _, cells, e', ro, by rw [hlen]; rfl, .inr ⟨cp - k, rfl, by rw [hlen]; omega⟩, h3, by rw [hlen]; omega, by rw [hlen]; omega, hR⟩
        | true =>
          have e1 := Nat.eq_of_beq_eq_true hbq
          have hd : la.drop k = [] := List.drop_eq_nil_of_le (by omega)
          rw [hd]
          exact .inr ⟨b, off, _, cells, e', ro, by grind, .inr ⟨cp - k, rfl, by simp⟩, h3, by simp; omega, by simp, fun i x hx' => by simp at hx'⟩
end
section
variable {P : Program} {G : Cx} {n : Nat} {t : PT AV} {σ : AHeap} {K : KP} {L : Own} {Q : Ex → PT AV → AHeap → Prop} {ops : Array Oper} {o : Oper} {l : List Oper} {lp : List (Nat × List Nat)} {ix : Nat} {rc : List Nat}
theorem o_sliceFrom {α : Type} {m e k : Nat} {kk : IntKind} {R : α → List AV → Prop} {la : List α} {v : AV} {ty : TypeId} {xo lo : Operand} {t' : AV → PT AV} (h : HasS K m R la v) (hk : k ≤ la.length) (hw : wantedA ops t o = some true) (ho : o.op = .slice ty xo (some lo) none none)
    (hu : P.underlying ty = some (.slice e)) (hj : (P.info? e).map (·.size) = some m) (hx : evalT G t xo = some v) (hh : evalT G t lo = some (.int kk (.ofNat k))) (hp : ∀ v, putT t n o.dst v = some (t' v))
    (hc : ∀ w, HasS K m R (la.drop k) w → EvOps P G ops n l (t' w) σ Q) : EvOps P G ops n (o :: l) t σ Q := by
  obtain ⟨w, h1, h2⟩ := sliceFrom_of (P := P) h hk hu hj hx hh
  refine evOps_val hw ?_ (hp w) (hc w h2)
  rw [ho]
  exact x_pure rfl h1
theorem o_appK {α : Type} {m e : Nat} {R : α → List AV → Prop} {la l2 : List α} {u v2 : AV} {M : Own} {ty : TypeId} {cl : Call} {so xo : Operand} {t' : AV → PT AV} (hr : OwnS m e R la u M) (hs : St σ K (M ++ L)) (hx : HasS K m R l2 v2) (hleaf : ∀ x vs, R x vs → allLeaf vs = true) (hn : la.length + l2.length ≤ 1048576)
    (hw : wantedA ops t o = some true) (ho : o.op = .call cl) (hcl : cl.callee = .builtin .append) (hargs : cl.args.toList = [so, xo]) (ht : cl.argTypes[0]? = some ty) (e1' : evalT G t so = some u) (e2' : evalT G t xo = some v2) (hp : ∀ v, putT t n o.dst v = some (t' v))
    (h : ∀ (σ' : AHeap) (u' : AV) (M' : Own), OwnS m e R (la ++ l2) u' M' → St σ' K (M' ++ L) → EvOps P G ops n l (t' u') σ' Q) (hu : P.underlying ty = some (.slice e) := by kernel_rfl) (ha : appT P e m = true := by kernel_rfl) (h2 : sliceOrStr P cl.argTypes[1]? = true := by kernel_rfl) : EvOps P G ops n (o :: l) t σ Q := by
  obtain ⟨σ', u', M', k1, k2, k3⟩ := ownS_appK (P := P) hr hs hx hleaf hn ht hu ha h2
  refine evOps_val hw ?_ (hp _) (h σ' u' M' k2 k3)
  rw [ho]
  exact x_appendOp hcl hargs e1' e2' h2 k1
theorem o_app1 {α : Type} {m e : Nat} {R : α → List AV → Prop} {la l2 : List α} {u v2 : AV} {M : Own} {bv ev : Nat} {cv : List AV} {ty : TypeId} {cl : Call} {so xo : Operand} {t' : AV → PT AV} (hr : OwnS m e R la u M) (hs : St σ K ((bv, .row cv ev false) :: (M ++ L))) (hx : HasS (K.add bv (.row cv ev false)) m R l2 v2) (hleaf : ∀ x vs, R x vs → allLeaf vs = true) (hn : la.length + l2.length ≤ 1048576)
    (hw : wantedA ops t o = some true) (ho : o.op = .call cl) (hcl : cl.callee = .builtin .append) (hargs : cl.args.toList = [so, xo]) (ht : cl.argTypes[0]? = some ty) (e1' : evalT G t so = some u) (e2' : evalT G t xo = some v2) (hp : ∀ v, putT t n o.dst v = some (t' v))
    (h : ∀ (σ' : AHeap) (u' : AV) (M' : Own), OwnS m e R (la ++ l2) u' M' → St σ' K (M' ++ L) → EvOps P G ops n l (t' u') σ' Q) (hu : P.underlying ty = some (.slice e) := by kernel_rfl) (ha : appT P e m = true := by kernel_rfl) (h2 : sliceOrStr P cl.argTypes[1]? = true := by kernel_rfl) : EvOps P G ops n (o :: l) t σ Q := by
  obtain ⟨σ', u', M', k1, k2, k3⟩ := ownS_app1 (P := P) hr hs hx hleaf hn ht hu ha h2
  refine evOps_val hw ?_ (hp _) (h σ' u' M' k2 k3)
  rw [ho]
  exact x_appendOp hcl hargs e1' e2' h2 k1
theorem p_appK {α : Type} {m e : Nat} {R : α → List AV → Prop} {la l2 : List α} {u v2 : AV} {M : Own} {ty : TypeId} {cl : Call} {so xo : Operand} {t' : AV → PT AV} (hr : OwnS m e R la u M) (hs : St σ K (M ++ L)) (hx : HasS K m R l2 v2) (hleaf : ∀ x vs, R x vs → allLeaf vs = true) (hn : la.length + l2.length ≤ 1048576)
    (hi0 : ops[ix]? = some o) (hw : wantedA ops t o = some true) (ho : o.op = .call cl) (hcl : cl.callee = .builtin .append) (hargs : cl.args.toList = [so, xo]) (ht : cl.argTypes[0]? = some ty) (e1' : evalT G t so = some u) (e2' : evalT G t xo = some v2) (hp : ∀ v, putT t n o.dst v = some (t' v))
    (h : ∀ (σ' : AHeap) (u' : AV) (M' : Own), OwnS m e R (la ++ l2) u' M' → St σ' K (M' ++ L) → stillAll P G ops (t' u') σ' rc = true ∧ EvPlan P G ops n lp (t' u') σ' Q) (hu : P.underlying ty = some (.slice e) := by kernel_rfl) (ha : appT P e m = true := by kernel_rfl) (h2 : sliceOrStr P cl.argTypes[1]? = true := by kernel_rfl) : EvPlan P G ops n ((ix, rc) :: lp) t σ Q := by
  obtain ⟨σ', u', M', k1, k2, k3⟩ := ownS_appK (P := P) hr hs hx hleaf hn ht hu ha h2
  refine evPlan_valR hi0 hw ?_ (hp _) (h σ' u' M' k2 k3)
  rw [ho]
  exact x_appendOp hcl hargs e1' e2' h2 k1
theorem p_app1 {α : Type} {m e : Nat} {R : α → List AV → Prop} {la l2 : List α} {u v2 : AV} {M : Own} {bv ev : Nat} {cv : List AV} {ty : TypeId} {cl : Call} {so xo : Operand} {t' : AV → PT AV} (hr : OwnS m e R la u M) (hs : St σ K ((bv, .row cv ev false) :: (M ++ L))) (hx : HasS (K.add bv (.row cv ev false)) m R l2 v2) (hleaf : ∀ x vs, R x vs → allLeaf vs = true) (hn : la.length + l2.length ≤ 1048576)
    (hi0 : ops[ix]? = some o) (hw : wantedA ops t o = some true) (ho : o.op = .call cl) (hcl : cl.callee = .builtin .append) (hargs : cl.args.toList = [so, xo]) (ht : cl.argTypes[0]? = some ty) (e1' : evalT G t so = some u) (e2' : evalT G t xo = some v2) (hp : ∀ v, putT t n o.dst v = some (t' v))
    (h : ∀ (σ' : AHeap) (u' : AV) (M' : Own), OwnS m e R (la ++ l2) u' M' → St σ' K (M' ++ L) → stillAll P G ops (t' u') σ' rc = true ∧ EvPlan P G ops n lp (t' u') σ' Q) (hu : P.underlying ty = some (.slice e) := by kernel_rfl) (ha : appT P e m = true := by kernel_rfl) (h2 : sliceOrStr P cl.argTypes[1]? = true := by kernel_rfl) : EvPlan P G ops n ((ix, rc) :: lp) t σ Q := by
  obtain ⟨σ', u', M', k1, k2, k3⟩ := ownS_app1 (P := P) hr hs hx hleaf hn ht hu ha h2
  refine evPlan_valR hi0 hw ?_ (hp _) (h σ' u' M' k2 k3)
  rw [ho]
  exact x_appendOp hcl hargs e1' e2' h2 k1
end
section
variable {α : Type} {m E : Nat} {R : α → List AV → Prop}
section
variable {P : Program} {K : KP} {L : Own}
theorem ownT_appK {l l2 : List α} {u v2 : AV} {M : Own} {e : Nat} {ts : Array TypeId} {t : TypeId} {σ : AHeap} (ho : OwnT m e R l u M) (hst : St σ K (M ++ L))
    (hx : HasS K m R l2 v2) (hleaf : ∀ x vs, R x vs → allLeaf vs = true) (hn : l2.length ≤ 1000) (hl : l.length ≤ 1000000)
    (ht : ts[0]? = some t) (hu : P.underlying t = some (.slice e)) (ha : appT P e m = true) (h2 : sliceOrStr P ts[1]? = true) :
    ∃ σ' u' M', appendA P σ ts u v2 = .val u' σ' ∧ OwnT m e R (l ++ l2) u' M' ∧ St σ' K (M' ++ L) := by
  have hk := hst
  have hkw : St σ K (M ++ L) := hst
  rcases ho with ⟨rfl, rfl, rfl⟩ | ⟨b, c, cells, e', rfl, rfl, h3, h4, h5, h6⟩
  · cases l2 with
    | nil => exact ⟨σ, _, [], x_append0 hk hx hleaf ht hu ha h2, .inl ⟨rfl, rfl, rfl⟩, hk⟩
    | cons x0 l2 =>
      obtain ⟨news, k1, k2, k3⟩ := x_appendN (P := P) hk hx hleaf (by omega) (by simp) ht hu ha h2
      exact ⟨_, _, [(σ.next, .row news e false)], k1, .inr ⟨_, _, news, e, rfl, rfl, by simp_all, k3, .inr ⟨rfl, rfl⟩, by grind⟩, hk.alloc (.row news e false)⟩
  · obtain ⟨news, s1, s2, s3, s4⟩ := source_of hk hx hleaf
    unfold appT at ha
    split at ha
    · rename_i j hj
      simp only [Bool.and_eq_true] at ha
      obtain ⟨a1, a2, a3, a4⟩ := ha
      have hm : j.size = m := Nat.eq_of_beq_eq_true a1
      subst hm
      have hz : ((P.info? e).any fun j => (j.zero.bind ofVal).any fun z => (cellsA z).any fun cs => Nat.beq (lenN cs) j.size) = true := by rw [hj]; exact a4
      have hb := hkw.get 0 rfl
      have hlen : (l ++ l2).length = l.length + l2.length := List.length_append
      have hmul : (l.length + l2.length) * j.size = l.length * j.size + l2.length * j.size := Nat.add_mul ..
      unfold appendA
      rw [ht]
      dsimp only
      rw [hu]
      dsimp only
      rw [hj]
      dsimp only
      rw [h2, a2, a3]
      simp only [Bool.and_self, cond_true]
      rw [s1]
      dsimp only
      rw [hj] at hz
      rw [s3, show Nat.ble l2.length 1048576 = true by rw [Nat.ble_eq]; omega, hz]
      simp only [Bool.and_self, cond_true]
      have hle : Nat.ble (0 + l.length * j.size) (lenN cells) = true := by rw [Nat.ble_eq, lenN_eq]; omega
      have htake : takeN (dropN cells 0) (l.length * j.size) = cells.take (l.length * j.size) := by rw [takeN_eq, dropN_eq, List.drop_zero]
      have hl1 : Nat.ble l.length 1048576 = true := by simp_all
      have hA : (cells.take (l.length * j.size)).length = l.length * j.size := by simp_all
      have hsp : l.length * j.size + news.length ≤ cells.length → splice news cells (0 + l.length * j.size) = cells.take (l.length * j.size) ++ (news ++ cells.drop (l.length * j.size + news.length)) := fun hh => by
        rw [Nat.zero_add, splice_eq _ _ _ (by omega), List.append_assoc]
      have hin : l.length * j.size + news.length ≤ cells.length → ∀ c', ((∃ n, c' = Cap.known n ∧ (l ++ l2).length ≤ n ∧ n * j.size ≤ cells.length) ∨ (c' = Cap.upto j.size ∧ e' = e)) → OwnT j.size e R (l ++ l2) (.slice b 0 (l.length + l2.length) c') [(b, .row (splice news cells (0 + l.length * j.size)) e' false)] := fun hh c' hc' => by
        have hsl : (splice news cells (0 + l.length * j.size)).length = cells.length := by
          grind
        refine .inr ⟨b, c', _, e', by rw [hlen], rfl, by simp_all, ?_, by rw [hsl]; exact hc', by rw [hlen]; omega⟩
        rw [hsp hh]
        exact app_elems h3 h4 s2 s4
      have hgr : OwnT j.size e R (l ++ l2) (.slice σ.next 0 (l.length + l2.length) (.upto j.size)) [(σ.next, .row (cells.take (l.length * j.size) ++ news) e false)] := by
        refine .inr ⟨_, _, _, e, by rw [hlen], rfl, by simp_all, ?_, .inr ⟨rfl, rfl⟩, by rw [hlen]; omega⟩
        have := app_elems (Z := []) h3 h4 s2 s4
        simp_all
      rcases h5 with ⟨n, rfl, h7, h8⟩ | ⟨rfl, rfl⟩
      · dsimp only
        cases hc : Nat.ble (l.length + l2.length) n with
        | true =>
          have hc' : l.length + l2.length ≤ n := by simp_all
          have hfit : l.length * j.size + news.length ≤ cells.length := by
            have : (l.length + l2.length) * j.size ≤ n * j.size := Nat.mul_le_mul_right _ hc'
            rw [s2]; omega
          simp only [cond_true]
          rw [hb]
          dsimp only
          rw [show Nat.ble (0 + l.length * j.size + lenN news) (lenN cells) = true by rw [Nat.ble_eq, lenN_eq, lenN_eq]; omega]
          simp only [cond_true]
          exact ⟨_, _, [(b, _)], rfl, hin hfit _ (.inl ⟨n, rfl, by rw [hlen]; exact hc', h8⟩), hkw.set0 _⟩
        | false =>
          simp only [cond_false]
          rw [hb]
          dsimp only
          rw [hle, hl1, htake, appN_eq]
          simp only [Bool.and_self, cond_true]
          exact ⟨_, _, [(σ.next, _)], rfl, hgr, ((hkw.alloc _).perm (List.Perm.swap ..)).pop⟩
      · dsimp only
        cases h0 : Nat.beq l2.length 0 with
        | true =>
          have e0 : l2 = [] := List.eq_nil_of_length_eq_zero (Nat.eq_of_beq_eq_true h0)
          subst e0
          rw [Nat.beq_refl, hl1]
          simp only [Bool.and_self, cond_true, cond_false]
          exact ⟨σ, _, [(b, .row cells e' false)], rfl, by rw [List.append_nil]; exact .inr ⟨b, .upto j.size, cells, e', rfl, rfl, h3, h4, .inr ⟨rfl, rfl⟩, h6⟩, hkw⟩
        | false =>
          rw [Nat.beq_refl, hl1]
          simp only [Bool.and_self, cond_true, cond_false]
          rw [hb]
          dsimp only
          cases hf : (Nat.ble 1 l.length && Nat.ble (0 + l.length * j.size + lenN news) (lenN cells)) with
          | true =>
            have hfit : l.length * j.size + news.length ≤ cells.length := by
              rw [Bool.and_eq_true, Nat.ble_eq, Nat.ble_eq, lenN_eq, lenN_eq] at hf; omega
            simp only [cond_true]
            exact ⟨_, _, [(b, _)], rfl, hin hfit _ (.inr ⟨rfl, rfl⟩), hkw.set0 _⟩
          | false =>
            simp only [cond_false]
            rw [hle, Nat.beq_refl, htake, appN_eq]
            simp only [Bool.and_self, cond_true]
            exact ⟨_, _, [(σ.next, _)], rfl, hgr, hkw.regrow _⟩
    · cases ha
end
end
section
variable {P : Program} {G : Cx} {n : Nat} {t : PT AV} {σ : AHeap} {K : KP} {L : Own} {Q : Ex → PT AV → AHeap → Prop} {ops : Array Oper} {o : Oper} {l : List Oper} {lp : List (Nat × List Nat)} {ix : Nat} {rc : List Nat}
theorem p_appT {α : Type} {m e : Nat} {R : α → List AV → Prop} {la l2 : List α} {u v2 : AV} {M : Own} {ty : TypeId} {cl : Call} {so xo : Operand} {t' : AV → PT AV} (hr : OwnT m e R la u M) (hs : St σ K (M ++ L)) (hx : HasS K m R l2 v2) (hleaf : ∀ x vs, R x vs → allLeaf vs = true) (hn : l2.length ≤ 1000) (hl : la.length ≤ 1000000)
    (hi0 : ops[ix]? = some o) (hw : wantedA ops t o = some true) (ho : o.op = .call cl) (hcl : cl.callee = .builtin .append) (hargs : cl.args.toList = [so, xo]) (ht : cl.argTypes[0]? = some ty) (e1' : evalT G t so = some u) (e2' : evalT G t xo = some v2) (hp : ∀ v, putT t n o.dst v = some (t' v))
    (h : ∀ (σ' : AHeap) (u' : AV) (M' : Own), OwnT m e R (la ++ l2) u' M' → St σ' K (M' ++ L) → stillAll P G ops (t' u') σ' rc = true ∧ EvPlan P G ops n lp (t' u') σ' Q) (hu : P.underlying ty = some (.slice e) := by kernel_rfl) (ha : appT P e m = true := by kernel_rfl) (h2 : sliceOrStr P cl.argTypes[1]? = true := by kernel_rfl) : EvPlan P G ops n ((ix, rc) :: lp) t σ Q := by
  obtain ⟨σ', u', M', k1, k2, k3⟩ := ownT_appK (P := P) hr hs hx hleaf hn hl ht hu ha h2
  refine evPlan_valR hi0 hw ?_ (hp _) (h σ' u' M' k2 k3)
  rw [ho]
  exact x_appendOp hcl hargs e1' e2' h2 k1
end
end Go.Ev
namespace Go.Ev
section
variable {α : Type} {c : α → α → Int} {P : α → Prop}
theorem insD_new1 (h : Cmp3 c P) : ∀ {l : List α} {x : α}, (∀ y ∈ l, P y) → P x → x ∉ l → (insD c l x).length = l.length + 1
  | [], x, _, _, _ => rfl
  | y :: l, x, hl, hx, hn => by
    have py := hl y (List.mem_cons_self ..)
    show (if c y x < 0 then y :: insD c l x else if c y x = 0 then y :: l else x :: y :: l).length = _
    split
    · rw [List.length_cons, insD_new1 h (fun z hz => hl z (List.mem_cons_of_mem _ hz)) hx fun hm => hn (List.mem_cons_of_mem _ hm)]; rfl
    · split
      · rename_i h0
        exact absurd (List.mem_cons.2 (.inl ((h.zero y x py hx).1 h0).symm)) hn
      · rfl
theorem insD_old1 (h : Cmp3 c P) : ∀ {l : List α} {x : α}, (∀ y ∈ l, P y) → P x → Incr c l → x ∈ l → (insD c l x).length = l.length
  | [], x, _, _, _, hm => by cases hm
  | y :: l, x, hl, hx, hi, hm => by
    obtain ⟨i1, i2⟩ := List.pairwise_cons.1 hi
    have py := hl y (List.mem_cons_self ..)
    show (if c y x < 0 then y :: insD c l x else if c y x = 0 then y :: l else x :: y :: l).length = _
    rcases List.mem_cons.1 hm with rfl | hm'
    · rw [if_neg (h.irr hx), if_pos ((h.zero x x hx hx).2 rfl)]
    · rw [if_pos (i1 x hm'), List.length_cons, insD_old1 h (fun z hz => hl z (List.mem_cons_of_mem _ hz)) hx i2 hm']; rfl
theorem fold_len (h : Cmp3 c P) : ∀ {l a : List α}, (∀ x ∈ l, P x) → (∀ x ∈ a, P x) → Incr c a → (l.foldl (insD c) a).length ≤ a.length + l.length ∧ ((l.foldl (insD c) a).length = a.length + l.length ↔ (∀ x ∈ l, x ∉ a) ∧ l.Nodup)
  | [], a, _, _, _ => ⟨Nat.le_refl _, fun _ => ⟨(fun _ h => by cases h), List.nodup_nil⟩, fun _ => rfl⟩
  | x :: l, a, hl, ha, hi => by
    have px := hl x (List.mem_cons_self ..)
    have ha' : ∀ z ∈ insD c a x, P z := fun z hz => by
      rcases (insD_mem h ha px).1 hz with rfl | hz
      · exact px
      · exact ha z hz
    obtain ⟨h1, h2⟩ := fold_len h (l := l) (a := insD c a x) (fun z hz => hl z (List.mem_cons_of_mem _ hz)) ha' (insD_incr h ha px hi)
    show (l.foldl (insD c) (insD c a x)).length ≤ _ ∧ ((l.foldl (insD c) (insD c a x)).length = _ ↔ _)
    rw [List.length_cons]
    by_cases hm : x ∈ a
    · have e := insD_old1 h ha px hi hm
      refine ⟨by omega, fun e2 => by omega, fun e2 => absurd hm (e2.1 x (List.mem_cons_self ..))⟩
    · have e := insD_new1 h ha px hm
      refine ⟨by omega, fun e2 => ?_, fun ⟨e2, e3⟩ => ?_⟩
      · obtain ⟨k1, k2⟩ := h2.1 (by omega)
        have k1' : ∀ z ∈ l, z ≠ x ∧ z ∉ a := fun z hz => by
          have := k1 z hz
          rw [insD_mem h ha px] at this
          exact ⟨fun e => this (.inl e), fun e => this (.inr e)⟩
        refine ⟨fun z hz => ?_, List.nodup_cons.2 ⟨fun hx => (k1' x hx).1 rfl, k2⟩⟩
        rcases List.mem_cons.1 hz with rfl | hz
        · exact hm
        · exact (k1' z hz).2
      · obtain ⟨e4, e5⟩ := List.nodup_cons.1 e3
        have := h2.2 ⟨fun z hz hz2 => by
          rcases (insD_mem h ha px).1 hz2 with rfl | hz2
          · exact e4 hz
          · exact e2 z (List.mem_cons_of_mem _ hz) hz2, e5⟩
        omega
theorem sortD_twice (h : Cmp3 c P) {l : List α} (hl : ∀ x ∈ l, P x) : (sortD c l).length < l.length ↔ ¬ l.Nodup := by
  obtain ⟨h1, h2⟩ := fold_len h (l := l) (a := []) hl (fun _ hx => by cases hx) List.Pairwise.nil
  unfold sortD
  rw [List.length_nil, Nat.zero_add] at h1 h2
  constructor
  · intro hlt hn
    have := h2.2 ⟨(fun _ _ h => by cases h), hn⟩
    omega
  · intro hn
    by_cases e : (l.foldl (insD c) []).length = l.length
    · exact absurd (h2.1 e).2 hn
    · omega
end
theorem nodup_snoc {α : Type} {l : List α} {i : Nat} {x : α} (h : l[i]? = some x) (hn : (l.take i).Nodup) (hx : x ∉ l.take i) : (l.take (i + 1)).Nodup := by
  rw [List.take_add_one, h]
  show (l.take i ++ [x]).Nodup
  rw [List.nodup_append]
  refine ⟨hn, (by simp), fun a ha b hb => ?_⟩
  rw [List.mem_singleton.1 hb]
  exact fun e => hx (e ▸ ha)
theorem twice_no {α : Type} {l : List α} {i k : Nat} {x : α} (hi : l[i]? = some x) (hk : l[k]? = some x) (h : k < i) : ¬ l.Nodup := fun hn => by
  obtain ⟨h1, e1⟩ := List.getElem?_eq_some_iff.1 hi
  obtain ⟨h2, e2⟩ := List.getElem?_eq_some_iff.1 hk
  have := List.pairwise_iff_getElem.1 hn k i h2 h1 h
  exact this (e2.trans e1.symm)
end Go.Ev
namespace Go.Ev
variable [Env]
def RStr (s : List Nat) (vs : List AV) : Prop := vs = [.str s]
theorem HasE.mono {K K' : KP} (hk : KP.le K K') : ∀ {k : Nat} {x : XE} {vs : List AV}, HasE K k x vs → HasE K' k x vs
  | 0, x, _, h => by cases x; exact h.elim
  | k + 1, .mk _ _ _ _, _, ⟨v, h1, h2⟩ => ⟨v, h1, h2.mono hk fun _ _ h => HasE.mono hk h⟩
theorem HasI.mono {K K' : KP} (hk : KP.le K K') {k : Nat} {x : XI} {vs : List AV} (h : HasI K k x vs) : HasI K' k x vs := let ⟨v, h1, h2⟩ := h; ⟨v, h1, h2.mono hk fun _ _ h => h.mono hk⟩
theorem HasC.mono {K K' : KP} (hk : KP.le K K') {k : Nat} {x : XC} {vs : List AV} (h : HasC K k x vs) : HasC K' k x vs := let ⟨v, h1, h2⟩ := h; ⟨v, h1, h2.mono hk fun _ _ h => h.mono hk⟩
theorem cond_ind {α : Type} {P : α → Prop} {a b : α} (c : Bool) (h1 : P a) (h0 : P b) : P (bif c then a else b) := by grind
theorem cond_ind' {α : Type} {P : α → Prop} {a b : α} (c : Bool) (h1 : c = true → P a) (h0 : c = false → P b) : P (bif c then a else b) := by grind
theorem readsL_app (a b : List XEv) : readsL (a ++ b) = readsL a ++ readsL b := by unfold readsL; simp_all
theorem readsL_no {e : XEv} (h : readsB e = false) : readsL [e] = [] := by unfold readsL; simp_all
theorem readsL_yes {e : XEv} (h : readsB e = true) : readsL [e] = [e.read] := by unfold readsL; simp_all
theorem readsL_none {l : List XEv} (h : readsL l = []) : ∀ e ∈ l, readsB e = false := by
  intro e he
  cases hr : readsB e with
  | false => rfl
  | true =>
    have : e.read ∈ readsL l := List.mem_map_of_mem (List.mem_filter.2 ⟨he, hr⟩)
    simp_all
def Grown (s s' : TS) : Prop := (∃ ext, s'.events = s.events ++ ext ∧ readsL ext = []) ∧ s'.asked = s.asked
theorem Grown.refl (s : TS) : Grown s s := ⟨⟨[], by simp, rfl⟩, rfl⟩
theorem Grown.trans {s s' s'' : TS} (h : Grown s s') (h' : Grown s' s'') : Grown s s'' := by
  obtain ⟨⟨x, h1, h2⟩, h3⟩ := h
  obtain ⟨⟨y, k1, k2⟩, k3⟩ := h'
  exact ⟨⟨x ++ y, by simp_all, by rw [readsL_app, h2, k2]; rfl⟩, by rw [k3, h3]⟩
theorem stepI_grown (k : Nat) (x : XI) (s : TS) : Grown s (stepI k x s).1 := by
  obtain ⟨P, hP⟩ : ∃ P : TS × Bool → Prop, P = fun r => Grown s r.1 := ⟨_, rfl⟩
  have h0 : ∀ (r : TS × Bool), r.1.events = s.events → r.1.asked = s.asked → P r := fun r h1 h2 => by rw [hP]; exact ⟨⟨[], by rw [h1]; simp, rfl⟩, h2⟩
  have hw : ∀ (r : TS × Bool) (e : XEv), readsB e = false → r.1.events = s.events ++ [e] → r.1.asked = s.asked → P r := fun r e h1 h2 h3 => by rw [hP]; exact ⟨⟨[e], h2, readsL_no h1⟩, h3⟩
  have : P (stepI k x s) := by
    unfold stepI
    refine cond_ind _ (h0 _ rfl rfl) (cond_ind _ (hw _ _ rfl rfl rfl) (cond_ind _ (hw _ _ rfl rfl rfl) (cond_ind _ (cond_ind _ (h0 _ rfl rfl) (h0 _ rfl rfl)) (cond_ind _ (cond_ind _ (h0 _ rfl rfl) (h0 _ rfl rfl)) (cond_ind _ (h0 _ rfl rfl) (cond_ind _ (cond_ind _ (h0 _ rfl rfl) (h0 _ rfl rfl)) (cond_ind _ (h0 _ rfl rfl) (cond_ind _ (h0 _ rfl rfl) (h0 _ rfl rfl)))))))))
  simp_all
theorem stepC_grown (k : Nat) (c : XC) (s : TS) : Grown s (stepC k c s).1 := by
  grind [stepC, Grown.refl, stepI_grown]
theorem goX_grown (k : Nat) (c : XC) : ∀ (f : Nat) (s : TS), Grown s (goX k c f s)
  | 0, s => Grown.refl s
  | f + 1, s => by
    show Grown s (bif (stepC k c s).2 then goX k c f (stepC k c s).1 else (stepC k c s).1)
    exact cond_ind (P := Grown s) _ ((stepC_grown k c s).trans (goX_grown k c f _)) (stepC_grown k c s)
def AskOK (c : XC) (s : TS) : Prop := s.asks = true → ∃ x, c.ins[s.at_]? = some x ∧ (x.kind = 2 ∨ x.kind = 4 ∨ x.kind = 5 ∨ x.kind = 6)
theorem stepI_asks {k : Nat} {x : XI} {s : TS} {regs nins : Int} (hx : rightX regs nins k x = true) (hs : s.asks = false) : (stepI k x s).1.asks = true → (stepI k x s).1.at_ = s.at_ ∧ (x.kind = 2 ∨ x.kind = 4 ∨ x.kind = 5 ∨ x.kind = 6) ∧ (stepI k x s).2 = false := by
  obtain ⟨n, sh, hn, n1, n13, _, _⟩ := rightX_sh hx
  obtain ⟨P, hP⟩ : ∃ P : TS × Bool → Prop, P = fun r => r.1.asks = true → r.1.at_ = s.at_ ∧ (x.kind = 2 ∨ x.kind = 4 ∨ x.kind = 5 ∨ x.kind = 6) ∧ r.2 = false := ⟨_, rfl⟩
  have hno : ∀ r : TS × Bool, r.1.asks = s.asks → P r := fun r h1 => by simp_all
  have ne : ∀ m : Int, eqI x.kind m = false → x.kind ≠ m := fun m h e => by rw [e, eqI_self] at h; cases h
  have : P (stepI k x s) := by
    unfold stepI
    grind
  simp_all
theorem stepC_ask {k : Nat} {c : XC} (hc : CodeOK k c) {s : TS} (hs : s.asks = false) : AskOK c (stepC k c s).1 ∧ ((stepC k c s).2 = true → (stepC k c s).1.asks = false) := by
  unfold stepC
  cases hx : c.ins[s.at_]? with
  | none => exact ⟨fun h => (by simp_all), fun h => (by cases h)⟩
  | some x =>
    have h := stepI_asks (k := k) (hc.right x (List.mem_of_getElem? hx)) hs
    refine ⟨fun ha => ?_, fun h2 => ?_⟩
    · simp_all
    simp_all
theorem goX_ask {k : Nat} {c : XC} (hc : CodeOK k c) : ∀ (f : Nat) (s : TS), s.asks = false → AskOK c (goX k c f s)
  | 0, s, hs => fun h => by rw [show s.asks = true from h] at hs; cases hs
  | f + 1, s, hs => by
    have h := stepC_ask hc hs
    show AskOK c (bif (stepC k c s).2 then goX k c f (stepC k c s).1 else (stepC k c s).1)
    cases h2 : (stepC k c s).2 with
    | true => exact goX_ask hc f _ (h.2 h2)
    | false => exact h.1
theorem beginX_ask {k : Nat} {c : XC} (hc : CodeOK k c) : AskOK c (beginX k c) := goX_ask hc _ _ rfl
theorem answerX_ask {k : Nat} {c : XC} (hc : CodeOK k c) (s : TS) (v : Int) : AskOK c (answerX k c s v) := goX_ask hc _ _ rfl
theorem answerI_reads {a : XAsk} {v : Int} (h : a.kind = 2 ∨ a.kind = 4 ∨ a.kind = 5 ∨ a.kind = 6) : readsB (answerI a v) = true ∧ (answerI a v).read = v := by
  unfold answerI
  rcases h with h | h | h | h <;> rw [h]
  · exact ⟨rfl, rfl⟩
  · exact cond_ind (P := fun e : XEv => readsB e = true ∧ e.read = v) (eqI v a.a) ⟨rfl, rfl⟩ ⟨rfl, rfl⟩
  · exact ⟨rfl, rfl⟩
  · exact ⟨rfl, rfl⟩
theorem askX_kind {k : Nat} {c : XC} {s : TS} (h : AskOK c s) (ha : s.asks = true) : ((askX k c s).kind = 2 ∨ (askX k c s).kind = 4 ∨ (askX k c s).kind = 5 ∨ (askX k c s).kind = 6) := by
  obtain ⟨x, hx, hk⟩ := h ha
  unfold askX
  rw [hx]; exact hk
theorem answerX_grown {k : Nat} {c : XC} {s : TS} (h : AskOK c s) (ha : s.asks = true) (v : Int) : ∃ ext, (answerX k c s v).events = s.events ++ answerI (askX k c s) v :: ext ∧ readsL (answerI (askX k c s) v :: ext) = [v] := by
  obtain ⟨⟨ext, h1, h2⟩, _⟩ := goX_grown k c (fuelX c) (answered k c s v)
  obtain ⟨r1, r2⟩ := answerI_reads (v := v) (askX_kind (k := k) h ha)
  refine ⟨ext, ?_, ?_⟩
  · unfold answerX
    rw [h1]
    show (s.events ++ [_]) ++ ext = _
    simp_all
  · rw [show answerI (askX k c s) v :: ext = [answerI (askX k c s) v] ++ ext from rfl, readsL_app, readsL_yes r1, h2, r2]; rfl
theorem runA_grown {k : Nat} {c : XC} (hc : CodeOK k c) : ∀ (A : List Int) (s : TS), AskOK c s → AskOK c (runA k c A s) ∧ ∃ ext m, (runA k c A s).events = s.events ++ ext ∧ readsL ext = A.take m ∧ ((runA k c A s).asks = true → A.length ≤ m)
  | [], s, h => ⟨h, [], 0, by show s.events = _; simp, rfl, fun _ => Nat.le_refl _⟩
  | v :: r, s, h => by
    show AskOK c (bif s.asks then runA k c r (answerX k c s v) else s) ∧ ∃ ext m, (bif s.asks then runA k c r (answerX k c s v) else s).events = s.events ++ ext ∧ readsL ext = (v :: r).take m ∧ ((bif s.asks then runA k c r (answerX k c s v) else s).asks = true → (v :: r).length ≤ m)
    cases ha : s.asks with
    | false => exact ⟨h, [], 0, by simp_all, rfl, fun h' => by simp_all⟩
    | true =>
      obtain ⟨e1, h1, h2⟩ := answerX_grown (k := k) h ha v
      obtain ⟨q, ext, m, h3, h4, h5⟩ := runA_grown hc r _ (answerX_ask hc s v)
      refine ⟨q, answerI (askX k c s) v :: e1 ++ ext, m + 1, ?_, ?_, fun h' => ?_⟩
      · simp_all
      · rw [readsL_app, h2, h4]; rfl
      simp_all
theorem runA_snoc {k : Nat} {c : XC} (v : Int) : ∀ (A : List Int) (s : TS), runA k c (A ++ [v]) s = bif (runA k c A s).asks then answerX k c (runA k c A s) v else runA k c A s
  | [], s => rfl
  | a :: r, s => by
    show (bif s.asks then runA k c (r ++ [v]) (answerX k c s a) else s) = bif (bif s.asks then runA k c r (answerX k c s a) else s).asks then answerX k c (bif s.asks then runA k c r (answerX k c s a) else s) v else (bif s.asks then runA k c r (answerX k c s a) else s)
    cases ha : s.asks with
    | false => simp_all
    | true => simp only [cond_true]; exact runA_snoc v r _
theorem runC_grown {k : Nat} {c : XC} (hc : CodeOK k c) (A : List Int) : AskOK c (runC k c A) ∧ ∃ m, readsL (runC k c A).events = A.take m ∧ ((runC k c A).asks = true → A.length ≤ m) := by
  obtain ⟨h, ext, m, h1, h2, h3⟩ := runA_grown hc A (beginX k c) (beginX_ask hc)
  obtain ⟨⟨e0, h4, h5⟩, _⟩ := goX_grown k c (fuelX c) ⟨0, List.replicate c.regs.toNat 0, [], 0, 0, false⟩
  grind [runC, readsL_app, beginX]
theorem fitsT_iff {s : TS} {l : List XEv} : fitsT s l = true ↔ ∃ rest, s.events = l ++ rest := by
  grind [fitsT, sameX_iff, List.take_append_drop, ltI_nat]
def FitsX (k : Nat) (c : XC) (l : List XEv) : Prop := flatX k c = true ∧ fitsT (runC k c (readsL l)) l = true
theorem rest_quiet {k : Nat} {c : XC} (hc : CodeOK k c) {l rest : List XEv} (h : (runC k c (readsL l)).events = l ++ rest) : readsL rest = [] := by
  obtain ⟨_, m, h1, _⟩ := runC_grown hc (readsL l)
  rw [h, readsL_app] at h1
  have := congrArg List.length h1
  grind [List.length_eq_zero_iff]
theorem fits_nil {k : Nat} {c : XC} (h : flatX k c = true) : FitsX k c [] := ⟨h, fitsT_iff.2 ⟨_, rfl⟩⟩
theorem fits_event {k : Nat} {c : XC} {l : List XEv} {e : XEv} (h : FitsX k c l) (he : (runC k c (readsL l)).events[l.length]? = some e) : FitsX k c (l ++ [e]) ∧ readsB e = false := by
  obtain ⟨hf, h⟩ := h
  have hc := (flat_of hf).1
  obtain ⟨rest, hr⟩ := fitsT_iff.1 h
  have hq := rest_quiet hc hr
  rw [hr, List.getElem?_append_right (Nat.le_refl _), Nat.sub_self] at he
  cases rest with
  | nil => cases he
  | cons e' r =>
    simp only [List.getElem?_cons_zero, Option.some.injEq] at he
    subst he
    have hne := readsL_none hq e' (List.mem_cons_self ..)
    refine ⟨⟨hf, ?_⟩, hne⟩
    rw [readsL_app, readsL_no hne, List.append_nil]
    exact fitsT_iff.2 ⟨r, by rw [hr]; simp⟩
theorem fits_answer {k : Nat} {c : XC} {l : List XEv} (h : FitsX k c l) (he : (runC k c (readsL l)).events[l.length]? = none) (ha : (runC k c (readsL l)).asks = true) (v : Int) : FitsX k c (l ++ [answerI (askX k c (runC k c (readsL l))) v]) := by
  obtain ⟨hf, h⟩ := h
  have hc := (flat_of hf).1
  obtain ⟨rest, hr⟩ := fitsT_iff.1 h
  have hl : rest = [] := by
    simp_all
  subst hl
  rw [List.append_nil] at hr
  have hk := (runC_grown hc (readsL l)).1
  obtain ⟨r1, r2⟩ := answerI_reads (v := v) (askX_kind (k := k) hk ha)
  refine ⟨hf, ?_⟩
  rw [readsL_app, readsL_yes r1, r2]
  have e1 : runC k c (readsL l ++ [v]) = answerX k c (runC k c (readsL l)) v := by
    unfold runC at ha ⊢
    rw [runA_snoc, ha]; rfl
  rw [e1]
  obtain ⟨ext, h1, _⟩ := answerX_grown (k := k) hk ha v
  exact fitsT_iff.2 ⟨ext, by rw [h1, hr]; simp⟩
theorem checkX_flat {k : Nat} {c : XC} : eqI (checkX k c) 0 = flatX k c := by
  unfold checkX
  cases h : flatX k c with
  | true => rfl
  | false =>
    simp only [cond_false]
    cases h1 : eqI (irCheck k c) 0 with
    | true => rfl
    | false => exact h1
theorem nextM_fits {k : Nat} {c : XC} {l : List XEv} : (nextM k c l).2 = 0 ↔ FitsX k c l := by
  unfold nextM FitsX
  rw [checkX_flat]
  cases hf : flatX k c with
  | false =>
    refine ⟨fun h => ?_, fun h => (by cases h.1)⟩
    have h : checkX k c = 0 := h
    have := checkX_flat (k := k) (c := c)
    rw [h, hf] at this; cases this
  | true =>
    show (nextT k c (runC k c (readsL l)) l).2 = 0 ↔ _
    unfold nextT
    cases ht : fitsT (runC k c (readsL l)) l with
    | false => exact ⟨fun h => (by cases h), fun h => (by cases h.2)⟩
    | true =>
      refine ⟨fun _ => ⟨rfl, rfl⟩, fun _ => ?_⟩
      simp only [notB, cond_true, cond_false]
      grind
theorem nextM_cases {k : Nat} {c : XC} {l : List XEv} (h : (nextM k c l).2 = 0) :
    (∃ e, nextM k c l = (⟨e, noAsk, 0⟩, 0) ∧ FitsX k c (l ++ [e]) ∧ readsB e = false) ∨
    (∃ a, nextM k c l = (⟨noEv, a, 0⟩, 0) ∧ (a.kind = 2 ∨ a.kind = 4 ∨ a.kind = 5 ∨ a.kind = 6) ∧ ∀ v, FitsX k c (l ++ [answerI a v])) ∨
    (∃ n, nextM k c l = (⟨noEv, noAsk, n⟩, 0)) := by
  have hF := nextM_fits.1 h
  obtain ⟨hf, ht⟩ := hF
  have hc := (flat_of hf).1
  unfold nextM
  rw [checkX_flat, hf]
  show (∃ e, nextT k c (runC k c (readsL l)) l = _ ∧ _) ∨ _
  simp only [notB, cond_true, cond_false]
  unfold nextT
  rw [ht]
  simp only [notB, cond_true, cond_false]
  cases he : (runC k c (readsL l)).events[l.length]? with
  | some e =>
    obtain ⟨h1, h2⟩ := fits_event ⟨hf, ht⟩ he
    simp_all
  | none =>
    cases ha : (runC k c (readsL l)).asks with
    | true => exact .inr (.inl ⟨_, rfl, askX_kind (runC_grown hc _).1 ha, fun v => fits_answer ⟨hf, ht⟩ he ha v⟩)
    | false => simp_all
def cntRow (loc : Int) : List XEv → Nat
  | [] => 0
  | e :: l => (bif (bif writesB e then eqI e.loc loc else false) then 1 else 0) + cntRow loc l
def cntAll (loc : Int) : List (List XEv) → Nat
  | [] => 0
  | l :: r => cntRow loc l + cntAll loc r
theorem wrRow_iff {t : Nat} {k : List Int} {v : Int} : ∀ {l : List XEv} {n : Nat}, (k, v) ∈ wrRow t l n ↔ ∃ i e, l[i]? = some e ∧ writesB e = true ∧ k = [.ofNat (t + 1), .ofNat (n + i)] ∧ v = e.loc
  | [], n => ⟨fun h => (by cases h), fun ⟨i, e, h, _⟩ => by simp at h⟩
  | e :: l, n => by
    show (k, v) ∈ (bif writesB e then ([.ofNat (t + 1), .ofNat n], e.loc) :: wrRow t l (n + 1) else wrRow t l (n + 1)) ↔ _
    have ih := wrRow_iff (t := t) (k := k) (v := v) (l := l) (n := n + 1)
    have up : (k, v) ∈ wrRow t l (n + 1) ↔ ∃ i e', l[i]? = some e' ∧ writesB e' = true ∧ k = [.ofNat (t + 1), .ofNat (n + (i + 1))] ∧ v = e'.loc := by
      grind
    have cons : (∃ i e', (e :: l)[i]? = some e' ∧ writesB e' = true ∧ k = [.ofNat (t + 1), .ofNat (n + i)] ∧ v = e'.loc) ↔ (writesB e = true ∧ k = [.ofNat (t + 1), .ofNat n] ∧ v = e.loc) ∨ ∃ i e', l[i]? = some e' ∧ writesB e' = true ∧ k = [.ofNat (t + 1), .ofNat (n + (i + 1))] ∧ v = e'.loc := by
      constructor
      · grind
      · rintro (⟨h2, h3, h4⟩ | ⟨i, e', h1, h2, h3, h4⟩)
        · exact ⟨0, e, rfl, h2, h3, h4⟩
        · exact ⟨i + 1, e', by simpa using h1, h2, h3, h4⟩
    grind
theorem wrAll_iff {k : List Int} {v : Int} : ∀ {ls : List (List XEv)} {t : Nat}, (k, v) ∈ wrAll ls t ↔ ∃ s i l e, ls[s]? = some l ∧ l[i]? = some e ∧ writesB e = true ∧ k = [.ofNat (t + s + 1), .ofNat i] ∧ v = e.loc
  | [], t => ⟨fun h => (by cases h), fun ⟨s, i, l, e, h, _⟩ => by simp at h⟩
  | l :: ls, t => by
    show (k, v) ∈ wrRow t l 0 ++ wrAll ls (t + 1) ↔ _
    rw [List.mem_append, wrRow_iff, wrAll_iff (ls := ls)]
    constructor
    · rintro (⟨i, e, h1, h2, h3, h4⟩ | ⟨s, i, l', e, h0, h1, h2, h3, h4⟩)
      · exact ⟨0, i, l, e, rfl, h1, h2, by rw [h3, Nat.zero_add], h4⟩
      · exact ⟨s + 1, i, l', e, by simpa using h0, h1, h2, by grind, h4⟩
    grind
def entB (g : XG) (loc : Int) (id : XId) : Bool :=
  bif (evAt g id).isSome then (bif eqI id.thread 0 then false else bif writesB (evD (evAt g id)) then eqI (evD (evAt g id)).loc loc else false) else false
structure OrdOK (g : XG) (ln : Nat) (r : List XId) : Prop where
  ent : ∀ id ∈ r, entB g (.ofNat ln) id = true
  nodup : r.Nodup
  cnt : r.length = cntAll (.ofNat ln) g.threads
theorem ints_inj {x y : XId} (h : x.ints = y.ints) : x = y := by
  have : sameX x.ints y.ints = true := sameX_iff.2 h
  rw [XId.same] at this
  exact sameX_iff.1 this
theorem eq0' {a b : Int} (h : eqI a b = true) : a = b := by rw [eqI_eq] at h; simp_all
end Go.Ev
end
