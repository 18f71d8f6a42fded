/- An evaluator of the model's code over heaps whose blocks may lie anywhere, second part: what turns memory, calls, code. Without conditions. -/
import Derived.Test.YtgmdncbbcgiomaaEa
import Derived.Lib.Builder
import Derived.Laws.IdiomStrings
import Derived.Lib.UnsafeStr
import Derived.Lib.ConvBytes
import Derived.RangeFuncNested
import Derived.RecoverIn
import Derived.TacticsIn
set_option linter.unusedSectionVars false
set_option linter.unusedVariables false
set_option linter.unusedSimpArgs false
/- Maps; the theorem of what reads memory. -/
namespace Go.Ev
variable [Env]
section
variable {P : Program} {ρ : Ren} {σ : AHeap} {w : World}

def plainD : TypeDesc → Bool
 | .int _ | .string | .bool => true
 | _ => false

/-- Has a part's type plain values, or structs of such? -/
def PlainPart (P : Program) (u : TypeId) : Prop := (∃ d, P.underlying u = some d ∧ plainD d = true) ∨ (∃ gs, P.underlying u = some (.struct gs) ∧ ∀ g ∈ gs.toList, ∃ d, P.underlying g.type = some d ∧ plainD d = true) ∨ ∃ m e, P.underlying u = some (.array m e) ∧ intArr P e = true
theorem plainKey_cases {t : TypeId} (h : plainKey P t = true) : (∃ d, P.underlying t = some d ∧ plainD d = true) ∨ ∃ fs, P.underlying t = some (.struct fs) ∧ ∀ f ∈ fs.toList, PlainPart P f.type := by
 unfold plainKey at h
 split at h
 ·rename_i k hu; exact .inl ⟨_, hu, rfl⟩
 ·rename_i hu; exact .inl ⟨_, hu, rfl⟩
 ·rename_i hu; exact .inl ⟨_, hu, rfl⟩
 ·rename_i fs hu
  refine .inr ⟨fs, hu, fun f hf => ?_⟩
  rw [List.all_eq_true] at h
  have := h f hf
  split at this
  ·rename_i k hu'; exact .inl ⟨_, hu', rfl⟩
  ·rename_i hu'; exact .inl ⟨_, hu', rfl⟩
  ·rename_i hu'; exact .inl ⟨_, hu', rfl⟩
  ·rename_i gs hu'
   refine .inr (.inl ⟨gs, hu', fun g hg => ?_⟩)
   rw [List.all_eq_true] at this
   have := this g hg
   split at this
   ·rename_i k hu''; exact ⟨_, hu'', rfl⟩
   ·rename_i hu''; exact ⟨_, hu'', rfl⟩
   ·rename_i hu''; exact ⟨_, hu'', rfl⟩
   ·cases this
  ·rename_i m e hu'; exact .inr (.inr ⟨m, e, hu', this⟩)
  ·cases this
 ·cases h

theorem checkKey_plain {t : TypeId} {d : TypeDesc} (hu : P.underlying t = some d) (hd : plainD d = true) (em : Bool) (n : Nat) (a : Value) : (Instr.checkKey em (n + 1) t a).run P w = .ok () w := by
 simp only [Instr.checkKey, Sem.run_bind, run_underlying hu, Result.andThen_ok]
 cases d <;> first | (simp [plainD] at hd; done) | rfl

theorem checkKey_each {t : TypeId} {fs : Array Field} {ys : Array Value} (hu : P.underlying t = some (.struct fs)) (em : Bool) (n : Nat)
  (h : ∀ f ∈ fs.toList, ∃ y, (part f.type ys f.offset).run P w = .ok y w ∧ (Instr.checkKey em (n + 1) f.type y).run P w = .ok () w) : (Instr.checkKey em (n + 1 + 1) t (.agg ys)).run P w = .ok () w := by
 rw [Instr.checkKey]
 simp only [Sem.run_bind, run_underlying hu, Result.andThen_ok]
 rw [← Array.forIn_toList]
 clear hu
 generalize fs.toList = l at *
 induction l with
 | nil => simp
 | cons f l ih =>
  obtain ⟨y, hpart, hck⟩ := h f (by simp)
  have ih' := ih (fun g hg => h g (by simp [hg]))
  simp only [List.forIn_cons, Sem.run_bind, Sem.run_ite]
  split
  ·simp only [hpart, Result.andThen_ok, hck, Sem.run_pure]
   exact ih'
  ·simp only [Sem.run_pure, Result.andThen_ok]
   exact ih'
theorem checkKey_ints {t e : TypeId} {m : Nat} {cs : Array Value} {i : TypeInfo} {k : IntKind} (hu : P.underlying t = some (.array m e)) (he : P.underlying e = some (.int k)) (hi : P.info? e = some i) (hs : i.size = 1) (hl : m ≤ cs.size) (em : Bool) (n : Nat) :
  (Instr.checkKey em (n + 1 + 1) t (.agg cs)).run P w = .ok () w := by
 rw [Instr.checkKey]
 simp only [Sem.run_bind, run_underlying hu, Result.andThen_ok]
 simp only [Std.Legacy.Range.forIn_eq_forIn_range', Std.Legacy.Range.size, Nat.sub_zero, Nat.add_one_sub_one, Nat.div_one]
 have key : ∀ (l : Nat) (s : Nat), s + l ≤ cs.size → (forIn (List.range' s l) PUnit.unit fun i (_ : PUnit) => (do
   let z ← sizeOf e
   let v ← part e cs (i * z)
   Instr.checkKey em (n + 1) e v
   pure (ForInStep.yield PUnit.unit) : Sem (ForInStep PUnit))).run P w = .ok PUnit.unit w := by
  intro l
  induction l with
  | zero => intro s _; simp
  | succ l ih =>
   intro s hsl
   have hv : cs[s]? = some cs[s] := Array.getElem?_eq_getElem (by omega)
   have p : (part e cs (s * 1)).run P w = .ok cs[s] w := by
    rw [Nat.mul_one]
    simp only [part, Sem.run_bind, run_isAgg_of he, aggD, Result.andThen_ok, Bool.false_eq_true, if_false, hv, Sem.run_pure]
   simp only [List.range'_succ, List.forIn_cons, Sem.run_bind, run_sizeOf_of hi, hs, p, Result.andThen_ok, checkKey_plain he rfl, Sem.run_pure]
   exact ih (s + 1) (by omega)
 have := key m 0 (by omega)
 simp at this ⊢
 simp [this]
theorem plainPart_sound {u : TypeId} {d : TypeDesc} (hu : P.underlying u = some d) (hd : plainD d = true) {xs : List AV} {ys : Array Value} (hys : VRs ρ xs ys.toList) {off : Nat} (hs : (nth xs off).isSome = true) : ∃ y, (part u ys off).run P w = .ok y w := by
 obtain ⟨v, hv⟩ := Option.isSome_iff_exists.1 hs
 rw [nth_eq] at hv
 obtain ⟨y, hy, _⟩ := hys.get hv
 have hy' : ys[off]? = some y := by rw [← Array.getElem?_toList]; exact hy
 have hag : aggD d = false := by cases d <;> first | rfl | (simp [plainD] at hd)
 exact ⟨y, by simp only [part, Sem.run_bind, run_isAgg_of hu, hag, Result.andThen_ok, Bool.false_eq_true, if_false, hy', Sem.run_pure]⟩
theorem checkKey_sound {t : TypeId} {k : AV} {a : Value} (hp : plainKey P t = true) (hs : keyShape P t k = true) (hk : VR ρ k a) (em : Bool) : (Instr.checkKey em 10000 t a).run P w = .ok () w := by
 rcases plainKey_cases hp with ⟨d, hu, hd⟩ | ⟨fs, hu, hfs⟩
 ·exact checkKey_plain hu hd em 9999 a
 ·unfold keyShape at hs
  rw [hu] at hs
  cases k <;> (try (simp at hs; done))
  rename_i xs
  dsimp only at hs
  simp only [VR] at hk
  obtain ⟨ys, rfl, hys⟩ := hk
  refine checkKey_each hu em 9998 fun f hf => ?_
  rw [List.all_eq_true] at hs
  have hsf := hs f hf
  rcases hfs f hf with ⟨d, hu', hd'⟩ | ⟨gs, hu', hgs⟩ | ⟨m, e, hu', hia⟩
  ·have : (nth xs f.offset).isSome = true := by
    rw [hu'] at hsf
    cases d <;> first | exact hsf | (simp [plainD] at hd')
   obtain ⟨y, hy⟩ := plainPart_sound (P := P) (w := w) hu' hd' hys this
   exact ⟨y, hy, checkKey_plain hu' hd' em 9998 y⟩
  ·rw [hu'] at hsf
   dsimp only at hsf
   split at hsf
   ·rename_i n hag
    obtain ⟨c, r, v⟩ := aggPart_sound (P := P) (w := w) hag hys (off := f.offset)
    refine ⟨.agg c, r, checkKey_each hu' em 9997 fun g hg => ?_⟩
    rw [List.all_eq_true] at hsf
    obtain ⟨d, hu'', hd''⟩ := hgs g hg
    obtain ⟨y, hy⟩ := plainPart_sound (P := P) (w := w) hu'' hd'' v (hsf g hg)
    exact ⟨y, hy, checkKey_plain hu'' hd'' em 9997 y⟩
   ·cases hsf
  ·rw [hu'] at hsf
   dsimp only at hsf
   split at hsf
   ·rename_i n hag
    rw [Bool.and_eq_true, Nat.beq_eq, Nat.beq_eq, lenN_eq] at hsf
    obtain ⟨k, inf, he, hinf, hsz⟩ := intArr_inv hia
    obtain ⟨c, r, v⟩ := aggPart_sound (P := P) (w := w) hag hys (off := f.offset)
    have hcl := v.length
    exact ⟨.agg c, r, checkKey_ints hu' he hinf hsz (by rw [hsf.2] at hcl; have : c.toList.length = c.size := rfl; omega) em 9997⟩
   ·cases hsf

theorem keyEq_now {t : TypeId} {d : TypeDesc} (hu : P.underlying t = some d) (hd : plainD d = true) {x y : AV} {a c : Value} {b : Bool} (h : keyEq P t x y = some b) (hx : VR ρ x a) (hy : VR ρ y c) : Instr.sameNow d a c = some b := by
 unfold keyEq at h
 rw [hu] at h
 split at h
 ·rename_i u1 u2 u3 q j m k n e
  cases e
  cases hk : eqK j k with
  | false => rw [hk] at h; cases h
  | true =>
   rw [hk] at h
   have := eqK_eq hk
   subst this
   simp only [VR] at hx hy
   subst hx; subst hy
   simp only [cond_true, Option.some.injEq] at h
   rw [← h, eqI_eq]
   simp only [Instr.sameNow, if_true, Option.some.injEq]
   by_cases e : m = n <;> simp [e]
 ·rename_i u1 u2 u3 s s' e
  cases e
  simp only [VR] at hx hy
  obtain ⟨p, rfl, hp⟩ := hx
  obtain ⟨q, rfl, hq⟩ := hy
  cases h
  simp only [Instr.sameNow, Option.some.injEq]
  rw [strRel_eq hp hq, beq_toListBytes]
 ·rename_i u1 u2 u3 s s' e
  cases e
  simp only [VR] at hx hy
  subst hx; subst hy
  cases h
  simp only [Instr.sameNow, Option.some.injEq, cond_beq]
 ·rename_i u1 u2 u3 fs xs ys e
  cases e
  simp [plainD] at hd
 ·cases h

theorem keyEq_asks {t : TypeId} {fs : Array Field} (hu : P.underlying t = some (.struct fs)) {x y : AV} {a c : Value} {b : Bool} (h : keyEq P t x y = some b) (hx : VR ρ x a) (hy : VR ρ y c) : (Op.equal t a c).run P w = .ok b w := by
 unfold keyEq at h
 rw [hu] at h
 split at h
 ·rename_i e; cases e
 ·rename_i e; cases e
 ·rename_i e; cases e
 ·exact (equal_sound (P := P) (w := w) h hx hy .eql (.const .nilFunc) (.const .nilFunc)).2
 ·cases h

/-- How what is found stands for what is found. -/
def FoundR (ρ : Ren) : Option (Nat × AV) → Option (Nat × Value) → Prop
 | none, none => True
 | some (i, v), some (j, y) => i = j ∧ VR ρ v y
 | _, _ => False

theorem findNow_sound {t : TypeId} {d : TypeDesc} (hu : P.underlying t = some d) (hd : plainD d = true) {k : AV} {a : Value} (hk : VR ρ k a) : ∀ (es : List AEnt) (ys : List MapEntry) (i : Nat) (r : Option (Nat × AV)), EntR ρ es ys → findA P t k es i = some r →
  ∃ r', Instr.findNow d a ys i = some r' ∧ FoundR ρ r r'
 | [], ys, i, r, he, h => by
  have : ys = [] := he
  subst this
  have h' : some none = some r := h
  cases h'
  exact ⟨none, rfl, trivial⟩
 | e :: es, ys, i, r, he, h => by
  obtain ⟨y, rest, rfl, h1, h2, h3, h4⟩ := he
  have h' : (match keyEq P t k e.key with
   | some true => some (some (i, e.val))
   | some false => findA P t k es (Nat.succ i)
   | none => none) = some r := h
  cases hq : keyEq P t k e.key with
  | none => rw [hq] at h'; cases h'
  | some b =>
   rw [hq] at h'
   have hs := keyEq_now hu hd hq hk h1
   cases b with
   | true => cases h'; exact ⟨some (i, y.val), by simp [Instr.findNow, hs], rfl, h2⟩
   | false =>
    obtain ⟨r', g1, g2⟩ := findNow_sound hu hd hk es rest (i + 1) r h4 h'
    exact ⟨r', by simp [Instr.findNow, hs, g1], g2⟩

theorem findAsk_sound {t : TypeId} {fs : Array Field} (hu : P.underlying t = some (.struct fs)) {k : AV} {a : Value} (hk : VR ρ k a) : ∀ (es : List AEnt) (ys : List MapEntry) (i : Nat) (r : Option (Nat × AV)), EntR ρ es ys → findA P t k es i = some r →
  ∃ r', (Instr.findAsking t a ys i).run P w = .ok r' w ∧ FoundR ρ r r'
 | [], ys, i, r, he, h => by
  have : ys = [] := he
  subst this
  have h' : some none = some r := h
  cases h'
  exact ⟨none, rfl, trivial⟩
 | e :: es, ys, i, r, he, h => by
  obtain ⟨y, rest, rfl, h1, h2, h3, h4⟩ := he
  have h' : (match keyEq P t k e.key with
   | some true => some (some (i, e.val))
   | some false => findA P t k es (Nat.succ i)
   | none => none) = some r := h
  cases hq : keyEq P t k e.key with
  | none => rw [hq] at h'; cases h'
  | some b =>
   rw [hq] at h'
   have hs := keyEq_asks (w := w) hu hq hk h1
   cases b with
   | true => cases h'; exact ⟨some (i, y.val), by simp [Instr.findAsking, hs], rfl, h2⟩
   | false =>
    obtain ⟨r', g1, g2⟩ := findAsk_sound hu hk es rest (i + 1) r h4 h'
    exact ⟨r', by simp [Instr.findAsking, hs, g1], g2⟩

theorem find_sound {t : TypeId} (hp : plainKey P t = true) {k : AV} {a : Value} (hk : VR ρ k a) {es : List AEnt} {ys : List MapEntry} {r : Option (Nat × AV)} (he : EntR ρ es ys) (h : findA P t k es 0 = some r) :
  ∃ r', (Instr.findKey t a ys).run P w = .ok r' w ∧ FoundR ρ r r' := by
 rcases plainKey_cases hp with ⟨d, hu, hd⟩ | ⟨fs, hu, hfs⟩
 ·obtain ⟨r', h1, h2⟩ := findNow_sound hu hd hk es ys 0 r he h
  exact ⟨r', by simp [Instr.findKey, run_underlying hu, h1], h2⟩
 ·cases hn : Instr.findNow (.struct fs) a ys 0 with
  | none =>
   obtain ⟨r', h1, h2⟩ := findAsk_sound (w := w) hu hk es ys 0 r he h
   exact ⟨r', by simp [Instr.findKey, run_underlying hu, hn, h1], h2⟩
  | some r0 =>
   cases es with
   | nil =>
    have : ys = [] := he
    subst this
    have h' : some none = some r := h
    cases h'
    exact ⟨none, by simp [Instr.findKey, run_underlying hu, Instr.findNow], trivial⟩
   | cons e es =>
    obtain ⟨y, rest, rfl, h1, _⟩ := he
    have : Instr.sameNow (.struct fs) a y.key = none := by simp [Instr.sameNow]
    simp [Instr.findNow, this] at hn

theorem EntR.length : ∀ {es : List AEnt} {ys : List MapEntry}, EntR ρ es ys → ys.length = es.length
 | [], ys, h => by have : ys = [] := h; rw [this]; rfl
 | e :: es, ys, h => by obtain ⟨y, r, rfl, _, _, _, h4⟩ := h; simp [h4.length]
theorem EntR.get : ∀ {es : List AEnt} {ys : List MapEntry}, EntR ρ es ys → ∀ {i : Nat} {e : AEnt}, es[i]? = some e → ∃ y, ys[i]? = some y ∧ VR ρ e.key y.key ∧ VR ρ e.val y.val ∧ y.born = e.born
 | [], ys, h, i, e, he => by simp at he
 | e :: es, ys, h, 0, e', he => by
  obtain ⟨y, r, rfl, h1, h2, h3, h4⟩ := h
  simp at he; subst he
  exact ⟨y, rfl, h1, h2, h3⟩
 | e :: es, ys, h, i + 1, e', he => by
  obtain ⟨y, r, rfl, h1, h2, h3, h4⟩ := h
  simp at he
  simpa using h4.get he
theorem EntR.append : ∀ {es fs : List AEnt} {ys zs : List MapEntry}, EntR ρ es ys → EntR ρ fs zs → EntR ρ (es ++ fs) (ys ++ zs)
 | [], fs, ys, zs, h, h' => by have : ys = [] := h; subst this; exact h'
 | e :: es, fs, ys, zs, h, h' => by
  obtain ⟨y, r, rfl, h1, h2, h3, h4⟩ := h
  exact ⟨y, r ++ zs, rfl, h1, h2, h3, h4.append h'⟩
theorem EntR.set : ∀ {es : List AEnt} {ys : List MapEntry}, EntR ρ es ys → ∀ (i : Nat) {e : AEnt} {y : MapEntry}, VR ρ e.key y.key → VR ρ e.val y.val → y.born = e.born → EntR ρ (es.set i e) (ys.set i y)
 | [], ys, h, i, _, _, _, _, _ => by have : ys = [] := h; subst this; simp [EntR]
 | e :: es, ys, h, 0, _, _, k1, k2, k3 => by
  obtain ⟨y, r, rfl, h1, h2, h3, h4⟩ := h
  exact ⟨_, r, rfl, k1, k2, k3, h4⟩
 | e :: es, ys, h, i + 1, _, _, k1, k2, k3 => by
  obtain ⟨y, r, rfl, h1, h2, h3, h4⟩ := h
  exact ⟨y, _, rfl, h1, h2, h3, h4.set i k1 k2 k3⟩
theorem EntR.erase : ∀ {es : List AEnt} {ys : List MapEntry}, EntR ρ es ys → ∀ (i : Nat), EntR ρ (es.eraseIdx i) (ys.eraseIdx i)
 | [], ys, h, i => by have : ys = [] := h; subst this; simp [EntR]
 | e :: es, ys, h, 0 => by obtain ⟨y, r, rfl, h1, h2, h3, h4⟩ := h; exact h4
 | e :: es, ys, h, i + 1 => by
  obtain ⟨y, r, rfl, h1, h2, h3, h4⟩ := h
  exact ⟨y, _, rfl, h1, h2, h3, h4.erase i⟩

theorem Inv.mapObj (hi : Inv ρ σ w) {b : Pos} {l : Loc} {es : List AEnt} {clock : Nat} (ho : σ.m.get b = some (.map es clock)) (hl : ρ b = some l) : ∃ es', w.heap[l.blk]? = some (.map es' clock) ∧ EntR ρ es es'.toList := by
 obtain ⟨x, hx, es', rfl, h2⟩ := hi.obj b _ l ho hl
 exact ⟨es', hx, h2⟩
theorem run_getObj_map {r clock : Nat} {es : Array MapEntry} (h : w.heap[r]? = some (.map es clock)) : (getObj r).run P w = .ok (.map es clock) w := by
 simp [getObj, Sem.run, h]

theorem lookup_sound (hi : Inv ρ σ w) {ev : Operand → Option AV} {f : Operand → Value} {t : TypeId} {x i : Operand} {ok : Bool} {v : AV} (hx : ∀ u, ev x = some u → VR ρ u (f x)) (hk : ∀ u, ev i = some u → VR ρ u (f i))
  (h : readA P ev σ (.lookup t x i ok) = some v) : ∃ z, (Instr.lookup t (f x) (f i) ok).run P w = .ok z w ∧ VR ρ v z := by
 simp only [readA] at h
 split at h
 ·rename_i kt et k hu hik
  simp only [ite_cond] at h
  split at h
  ·rename_i hpk
   rw [Bool.and_eq_true] at hpk
   obtain ⟨hp, hsh⟩ := hpk
   have hkv := hk _ hik
   -- the entries
   have main : ∀ (es : List AEnt) (ys : Array MapEntry), EntR ρ es ys.toList →
     (match findA P kt k es 0, zeroA P et with
      | some (some (_, v)), some _ => some (if ok = true then AV.tuple [v, .bool true] else v)
      | some none, some z => some (if ok = true then AV.tuple [z, .bool false] else z)
      | _, _ => none) = some v →
     (Instr.checkKey ys.isEmpty 10000 kt (f i)).run P w = .ok () w ∧ ∃ r', (Instr.findKey kt (f i) ys.toList).run P w = .ok r' w ∧
      ((∃ j y, r' = some (j, y) ∧ VR ρ v (if ok = true then .tuple #[y, .bool true] else y)) ∨
       (r' = none ∧ ∃ xz, (zeroValue et).run P w = .ok xz w ∧ VR ρ v (if ok = true then .tuple #[xz, .bool false] else xz))) := by
    intro es ys he hh
    have hck := checkKey_sound (w := w) hp hsh hkv ys.isEmpty
    cases hf : findA P kt k es 0 with
    | none => rw [hf] at hh; cases hh
    | some r =>
     obtain ⟨r', g1, g2⟩ := find_sound (w := w) hp hkv he hf
     cases hz : zeroA P et with
     | none => rw [hf, hz] at hh; cases r <;> cases hh
     | some zz =>
      rw [hf, hz] at hh
      obtain ⟨iz, xz, hiz, hzero, hzv⟩ := zeroA_sound hz
      cases r with
      | some p =>
       obtain ⟨j, u⟩ := p
       cases r' with
       | none => exact g2.elim
       | some q =>
        obtain ⟨j', y⟩ := q
        obtain ⟨_, hy⟩ := g2
        refine ⟨hck, _, g1, .inl ⟨j', y, rfl, ?_⟩⟩
        cases hh
        cases ok with
        | true =>
         simp only [if_true, VR]
         exact ⟨_, rfl, VRs.cons hy (VRs.cons (by simp only [VR]) VRs.nil)⟩
        | false => simpa using hy
      | none =>
       cases r' with
       | some q => exact g2.elim
       | none =>
        have hzr : (zeroValue et).run P w = .ok xz w := by simp [zeroValue, typeInfo, hiz, hzero]
        refine ⟨hck, _, g1, .inr ⟨rfl, xz, hzr, ?_⟩⟩
        cases hh
        cases ok with
        | true =>
         simp only [if_true, VR]
         exact ⟨_, rfl, VRs.cons (hzv ρ) (VRs.cons (by simp only [VR]) VRs.nil)⟩
        | false => simpa using hzv ρ
   cases hxv : ev x with
   | none => rw [hxv] at h; cases h
   | some m =>
    rw [hxv] at h
    have hmv := hx m hxv
    cases m with
    | nilMap =>
     simp only [VR] at hmv
     dsimp only at h
     obtain ⟨hck, r', g1, hr⟩ := main [] #[] (by simp [EntR]) h
     rcases hr with ⟨j, y, rfl, hr⟩ | ⟨rfl, xz, hz, hr⟩
     ·exact ⟨_, by rw [hmv]; simp only [Instr.lookup, Sem.run_bind, run_underlying hu, Result.andThen_ok, Sem.run_pure, hck, g1], hr⟩
     ·exact ⟨_, by rw [hmv]; simp only [Instr.lookup, Sem.run_bind, run_underlying hu, Result.andThen_ok, Sem.run_pure, hck, g1, hz], hr⟩
    | map b =>
     simp only [VR] at hmv
     obtain ⟨l, hl, hf⟩ := hmv
     dsimp only at h
     cases hb : σ.m.get b with
     | none => rw [hb] at h; cases h
     | some ob =>
      rw [hb] at h
      cases ob with
      | map es clock =>
       dsimp only at h
       obtain ⟨ys, hh, he⟩ := hi.mapObj hb hl
       obtain ⟨hck, r', g1, hr⟩ := main es ys he h
       rcases hr with ⟨j, y, rfl, hr⟩ | ⟨rfl, xz, hz, hr⟩
       ·exact ⟨_, by rw [hf]; simp only [Instr.lookup, Sem.run_bind, run_underlying hu, Result.andThen_ok, Sem.run_pure, run_getObj_map hh, hck, g1], hr⟩
       ·exact ⟨_, by rw [hf]; simp only [Instr.lookup, Sem.run_bind, run_underlying hu, Result.andThen_ok, Sem.run_pure, run_getObj_map hh, hck, g1, hz], hr⟩
      | _ => cases h
    | _ => cases h
  ·cases h
 ·cases h

theorem place_sound (hi : Inv ρ σ w) {u : Option TypeId} {x : Option AV} {v : AV} {z : Value} (h : placeA P u σ x = some v) (hx : ∀ a, x = some a → VR ρ a z) :
  ∃ (a : Addr) (e cells : Nat), z = .pointer (some a) ∧ VR ρ v z ∧ w.shape? a.block = some (e, cells) ∧ (match u with | some u => liesAt P P.depth e (cells / P.cellsOf e) a.off u 1 = true | none => a.off < cells) := by
 unfold placeA at h
 cases x with
 | none => cases h
 | some xv =>
  cases xv with
  | ptr b off =>
   have hv := hx _ rfl
   have hv' := hv
   simp only [VR] at hv'
   obtain ⟨l, hl, rfl⟩ := hv'
   dsimp only at h
   cases hb : σ.m.get b with
   | none => rw [hb] at h; cases h
   | some ob =>
    rw [hb] at h
    cases ob with
    | own cells e =>
     dsimp only at h
     obtain ⟨y, hy, ⟨h0, h0'⟩, c, fr, rfl, hc, _⟩ := hi.obj b _ l hb hl
     have hsz : c.size = cells.length := by omega
     have hsh : w.shape? l.blk = some (e, cells.length) := by simp [World.shape?, hy, hsz]
     cases u with
     | some u =>
      dsimp only at h
      rw [ite_cond] at h
      split at h
      ·rename_i hq
       cases h
       rw [lenN_eq] at hq
       exact ⟨_, e, cells.length, rfl, hv, hsh, by simpa [h0] using hq⟩
      ·cases h
     | none =>
      dsimp only at h
      rw [ite_cond] at h
      split at h
      ·rename_i hq
       cases h
       rw [Nat.ble_eq, lenN_eq] at hq
       exact ⟨_, e, cells.length, rfl, hv, hsh, by show l.sh + off < cells.length; omega⟩
      ·cases h
    | _ => cases h
  | _ => cases h

theorem read_sound (hi : Inv ρ σ w) {ev : Operand → Option AV} {f : Operand → Value} {o : Oper} {v : AV} (hE : ER ρ ev f o.op) (h : readA P ev σ o.op = some v) :
  ∃ x, (execOp f o).run P w = .ok (.value x) w ∧ VR ρ v x := by
 cases ho : o.op with
 | load t x =>
  rw [ho] at h hE
  simp only [readA] at h
  cases hx : ev x with
  | none => rw [hx] at h; cases h
  | some u =>
   rw [hx] at h
   have hvx := hE x (by simp [Op.operands]) u hx
   cases u with
   | ptr b off =>
    simp only at h
    cases hg : σ.m.get b with
    | none => rw [hg] at h; cases h
    | some ob =>
     rw [hg] at h
     cases ob with
     | row cells e ro =>
      simp only [VR] at hvx
      obtain ⟨l, hl, hfx⟩ := hvx
      obtain ⟨y, hy, hr⟩ := loadVar_sound (P := P) hi hg hl h
      refine ⟨y, ?_, hr⟩
      simp [execOp, ho, Instr.loadAt, hfx, Instr.sureAddr, hy]
     | own cells e =>
      simp only [VR] at hvx
      obtain ⟨l, hl, hfx⟩ := hvx
      obtain ⟨_, hi', _⟩ := hi.own hg hl
      obtain ⟨y, hy, hr⟩ := loadVar_sound (P := P) hi' (AHeap.get_setObj _ _ _) hl h
      refine ⟨y, ?_, hr⟩
      simp [execOp, ho, Instr.loadAt, hfx, Instr.sureAddr, hy]
     | _ => cases h
   | _ => cases h
 | lookup t x i ok =>
  rw [ho] at h hE
  obtain ⟨z, h1, h2⟩ := lookup_sound (P := P) hi (f := f) (hE x (by simp [Op.operands])) (hE i (by simp [Op.operands])) h
  exact ⟨z, by simp only [execOp, ho, Sem.run_bind, h1, Result.andThen_ok, Sem.run_pure], h2⟩
 | convert src dst x =>
  rw [ho] at h hE
  simp only [readA] at h
  split at h
  case h_4 => cases h
  case h_2 =>
   rename_i t hs hd
   split at h
   ·rename_i j hj
    rw [ite_cond] at h
    split at h
    ·cases h
    ·rename_i h0
     obtain ⟨a, e, cells, hf, hv, hsh, hoff⟩ := place_sound hi h (hE x (by simp [Op.operands]))
     have hj0 : j.size ≠ 0 := fun e => h0 (by rw [e]; rfl)
     refine ⟨f x, ?_, hv⟩
     rw [hf]
     simp only [execOp, ho, hf, Sem.run_bind, Lib.run_to_unsafe w a hs hd hj hj0 hsh hoff, Result.andThen_ok, Sem.run_pure]
   ·cases h
  case h_3 =>
   rename_i u hs hd
   rw [ite_cond] at h
   split at h
   ·rename_i hi'
    obtain ⟨j, hj⟩ := Option.isSome_iff_exists.1 hi'
    obtain ⟨a, e, cells, hf, hv, hsh, hoff⟩ := place_sound hi h (hE x (by simp [Op.operands]))
    refine ⟨f x, ?_, hv⟩
    rw [hf]
    simp only [execOp, ho, hf, Sem.run_bind, Lib.run_from_unsafe w a hs hd hj hsh hoff, Result.andThen_ok, Sem.run_pure]
   ·cases h
  rename_i e hs hd
  split at h
  case h_3 => cases h
  ·rename_i he hx
   cases h
   have hv := hE x (by simp [Op.operands]) _ hx
   simp only [VR] at hv
   refine ⟨.string .empty, ?_, by simp only [VR]; exact ⟨_, rfl, rfl⟩⟩
   simp [execOp, ho, convert, hv, run_underlying hs, run_underlying hd, run_underlying he, Conv.bytesToString]
  ·rename_i b off len cap he hx
   have hv := hE x (by simp [Op.operands]) _ hx
   have fin : ∀ (a : Addr) (c : Nat) (s : List Nat), f x = .slice (some a) len c → s.length = len → (∀ n ∈ s, n ≤ 255) → (∀ (j : Nat) (hj : j < s.length), w.cell? (a.add j) = some (.int .u8 ((s[j] : Nat) : Int))) →
     ∃ z, (execOp f o).run P w = .ok (.value z) w ∧ VR ρ (.str s) z := by
    intro a c s hf hl hle hc
    have hb : ∀ n ∈ s, (UInt8.ofNat n).toNat = n := fun n hn => by
     have := hle n hn
     rw [UInt8.toNat_ofNat']
     omega
    have := run_convert_bytes_back (P := P) w src dst e a c (s.map UInt8.ofNat) hs he hd (fun j hj => by
     have hj' : j < s.length := by simpa using hj
     rw [hc j hj', List.getElem_map, hb _ (List.getElem_mem hj')])
    rw [List.length_map, hl] at this
    refine ⟨.string ⟨(s.map UInt8.ofNat).toArray⟩, by simp only [execOp, ho, hf, Sem.run_bind, this, Result.andThen_ok, Sem.run_pure], ?_⟩
    simp only [VR]
    refine ⟨_, rfl, ?_⟩
    unfold strRel
    simp only [List.map_map]
    conv => rhs; rw [← List.map_id s]
    exact List.map_congr_left fun n hn => hb n hn
   rw [ite_cond] at h
   split at h
   ·rename_i h0
    have := Nat.eq_of_beq_eq_true h0
    subst this
    cases h
    obtain ⟨a, c, hf⟩ := VR.slice_inv hv
    exact fin a c [] hf rfl (fun n hn => by cases hn) (fun j hj => by cases hj)
   ·rename_i h0
    rw [Nat.beq_eq] at h0
    split at h
    ·rename_i cells e' ro hb
     rw [ite_cond] at h
     split at h
     ·rename_i hle
      rw [Nat.ble_eq, lenN_eq] at hle
      split at h
      ·rename_i s hbs
       cases h
       obtain ⟨l, c, hl, hf⟩ : ∃ l c, ρ b = some l ∧ f x = .slice (some ⟨l.blk, l.sh + off, none⟩) len c := by
        cases cap with
        | known c => simp only [VR] at hv; obtain ⟨l, hl, h'⟩ := hv; exact ⟨l, c, hl, h'⟩
        | upto sz =>
         simp only [VR] at hv
         obtain ⟨l, hl, ⟨c, h', _⟩ | ⟨h', _⟩⟩ := hv
         ·exact ⟨l, c, hl, h'⟩
         ·exact absurd h' h0
        | least a sz => simp only [VR] at hv; obtain ⟨l, hl, c, h', _⟩ := hv; exact ⟨l, c, hl, h'⟩
       obtain ⟨ys, hyl, hys, hcell⟩ := hi.piece hb hl off len hle
       rw [takeN_eq, dropN_eq] at hbs
       have key : ∀ (l : List AV) (s : List Nat), allSome byteA l = some s → s.length = l.length ∧ (∀ n ∈ s, n ≤ 255) ∧ ∀ (j : Nat) (n : Nat), s[j]? = some n → l[j]? = some (.int .u8 (.ofNat n)) := by
        intro l
        induction l with
        | nil => intro s h; rw [allSome_nil] at h; cases h; exact ⟨rfl, fun n hn => (by cases hn), fun j n hn => (by simp at hn)⟩
        | cons x l ih =>
         intro s h
         obtain ⟨y, r, h1, h2, rfl⟩ := allSome_cons h
         obtain ⟨k1, k2, k3⟩ := ih r h2
         have hx : x = .int .u8 (.ofNat y) ∧ y ≤ 255 := by
          unfold byteA at h1
          split at h1
          ·rw [ite_cond] at h1
           split at h1
           ·rename_i hle; cases h1; exact ⟨rfl, by rwa [Nat.ble_eq] at hle⟩
           ·cases h1
          ·cases h1
         refine ⟨by simp [k1], fun n hn => ?_, fun j n hn => ?_⟩
         ·rcases List.mem_cons.1 hn with rfl | hn
          ·exact hx.2
          ·exact k2 n hn
         ·cases j with
          | zero => simp at hn; subst hn; simp [hx.1]
          | succ j => simp only [List.getElem?_cons_succ] at hn ⊢; exact k3 j n hn
       obtain ⟨k1, k2, k3⟩ := key _ s hbs
       have hsl : s.length = len := by rw [k1, List.length_take, List.length_drop]; omega
       refine fin _ c s hf hsl k2 (fun j hj => ?_)
       have h1 := k3 j s[j] (List.getElem?_eq_getElem hj)
       obtain ⟨y, hy, hvy⟩ := hys.get h1
       simp only [VR] at hvy
       subst hvy
       exact hcell j _ hy
      ·cases h
     ·cases h
    ·cases h
 | call c =>
  rw [ho] at h hE
  simp only [readA] at h
  split at h
  ·rename_i hcal
   split at h
   ·rename_i u1 u2 t x e1 e2
    have hargs : c.args = #[x] := by rw [← Array.toList_inj]; exact e2
    split at h
    ·rename_i u3 u4 kt et b hu hx
     have hv := hE x (by simp [Op.operands, Call.operands, hcal, hargs]) _ hx
     simp only [VR] at hv
     obtain ⟨l, hl, hf⟩ := hv
     split at h
     ·rename_i es clock hb
      cases h
      obtain ⟨ys, hh, he⟩ := hi.mapObj hb hl
      refine ⟨.int .i64 (Int.ofNat (lenN es)), ?_, by simp only [VR]⟩
      have hlen : ys.size = es.length := by have := he.length; simpa using this
      simp [execOp, ho, resolve, hcal, hargs, invoke, builtin, Builtin.len_, e1, run_underlying hu, hf, run_getObj_map hh, goInt, lenN_eq, hlen]
     ·cases h
    ·rename_i u3 u4 kt et hu hx
     cases h
     have hv := hE x (by simp [Op.operands, Call.operands, hcal, hargs]) _ hx
     simp only [VR] at hv
     refine ⟨.int .i64 0, ?_, by simp only [VR]⟩
     simp [execOp, ho, resolve, hcal, hargs, invoke, builtin, Builtin.len_, e1, run_underlying hu, hv, goInt]
    ·cases h
   ·cases h
  ·cases h
 | _ => rw [ho] at h; simp [readA] at h
end
end Go.Ev

/- Bytes as strings without a copy, and strings as bytes. -/
namespace Go.Ev
variable [Env]
section
variable {P : Program} {ρ : Ren} {σ : AHeap} {w : World}

theorem data_sound {ts : Array TypeId} {ty : TypeId} {x v : AV} {y : Value} (h : dataA x = some v) (hx : VR ρ x y) : ∃ z, (Builtin.unsafeSliceData_ ts ty #[y]).run P w = .ok z w ∧ VR ρ v z := by
 unfold dataA at h
 split at h
 ·cases h
  simp only [VR] at hx
  subst hx
  exact ⟨_, Lib.run_unsafeSliceData_nil w ts ty 0 0, by simp only [VR]⟩
 ·rename_i b off len c
  rw [ite_cond] at h
  split at h
  ·rename_i hr
   cases h
   cases c with
   | known c =>
    simp only [VR] at hx
    obtain ⟨l, hl, rfl⟩ := hx
    have hr : Nat.ble 1 c = true := hr
    rw [Nat.ble_eq] at hr
    exact ⟨_, Lib.run_unsafeSliceData_row w ts ty _ _ _ (by omega), by simp only [VR]; exact ⟨l, hl, rfl⟩⟩
   | upto s =>
    have hr : Nat.ble 1 len = true := hr
    rw [Nat.ble_eq] at hr
    simp only [VR] at hx
    obtain ⟨l, hl, ⟨c, rfl, hc, _⟩ | ⟨h0, _⟩⟩ := hx
    ·exact ⟨_, Lib.run_unsafeSliceData_row w ts ty _ _ _ (by omega), by simp only [VR]; exact ⟨l, hl, rfl⟩⟩
    ·omega
   | least a s =>
    have hr : Nat.ble 1 a = true := hr
    rw [Nat.ble_eq] at hr
    simp only [VR] at hx
    obtain ⟨l, hl, c, rfl, hc, _⟩ := hx
    exact ⟨_, Lib.run_unsafeSliceData_row w ts ty _ _ _ (by omega), by simp only [VR]; exact ⟨l, hl, rfl⟩⟩
  ·cases h
 ·cases h

theorem bytes_of : ∀ {l : List AV} {s : List Nat}, allSome byteA l = some s → s.length = l.length ∧ (∀ n ∈ s, n ≤ 255) ∧ ∀ (j : Nat) (n : Nat), s[j]? = some n → l[j]? = some (.int .u8 (.ofNat n))
 | [], s, h => by rw [allSome_nil] at h; cases h; exact ⟨rfl, fun n hn => (by cases hn), fun j n hn => (by simp at hn)⟩
 | x :: l, s, h => by
  obtain ⟨y, r, h1, h2, rfl⟩ := allSome_cons h
  obtain ⟨k1, k2, k3⟩ := bytes_of h2
  have hx : x = .int .u8 (.ofNat y) ∧ y ≤ 255 := by
   unfold byteA at h1
   split at h1
   ·rw [ite_cond] at h1
    split at h1
    ·rename_i hle; cases h1; exact ⟨rfl, by rwa [Nat.ble_eq] at hle⟩
    ·cases h1
   ·cases h1
  refine ⟨by simp [k1], fun n hn => ?_, fun j n hn => ?_⟩
  ·rcases List.mem_cons.1 hn with rfl | hn
   ·exact hx.2
   ·exact k2 n hn
  ·cases j with
   | zero => simp at hn; subst hn; simp [hx.1]
   | succ j => simp only [List.getElem?_cons_succ] at hn ⊢; exact k3 j n hn

theorem unsafeString_none (ts : Array TypeId) (ty : TypeId) (k : Value) : Builtin.unsafeString_ ts ty #[.pointer none, k] =
   (do
    let n ← asInt k
    let some _ := ts[0]? | stuck "unsafe.String: no argument types"
    if n < 0 then runtimePanic (.error "unsafe.String: len out of range")
    if n > IntKind.i64.max then unsupported (.unsafePointer "String: a length above the largest int")
    if n = 0 then pure (.string .empty)
    else runtimePanic (.error "unsafe.String: ptr is nil and len is not zero")) := rfl
theorem unsafeString_some (ts : Array TypeId) (ty : TypeId) (a : Addr) (k : Value) : Builtin.unsafeString_ ts ty #[.pointer (some a), k] =
   (do
    let n ← asInt k
    let some pt := ts[0]? | stuck "unsafe.String: no argument types"
    if n < 0 then runtimePanic (.error "unsafe.String: len out of range")
    if n > IntKind.i64.max then unsupported (.unsafePointer "String: a length above the largest int")
    if n = 0 then pure (.string .empty)
    else if ← variablesAt a (← elemOf pt) n.toNat then do
     let s ← loadBytes a .empty n.toNat
     freeze a n.toNat
     pure (.string s)
    else unsupported (.unsafePointer "String: not so many bytes at ptr")) := rfl
theorem run_unsafeString_zero {ts : Array TypeId} {ty pt : TypeId} (ht : ts[0]? = some pt) (p : Option Addr) : (Builtin.unsafeString_ ts ty #[.pointer p, .int .i64 0]).run P w = .ok (.string .empty) w := by
 have hmax : IntKind.i64.max = 9223372036854775807 := rfl
 cases p with
 | none => rw [unsafeString_none]; simp [ht, asInt, asIntOf, hmax]
 | some a => rw [unsafeString_some]; simp [ht, asInt, asIntOf, hmax]

theorem run_unsafeString_at {ts : Array TypeId} {ty pt e : TypeId} (ht : ts[0]? = some pt) (hp : P.underlying pt = some (.pointer e)) (hc : P.cellsOf e = 1) (g off cells : Nat) (hsh : w.shape? g = some (e, cells)) (l : List UInt8) (h0 : l ≠ []) (hn : off + l.length ≤ cells) (h63 : l.length ≤ 9223372036854775807)
  (hcell : ∀ j x, l[j]? = some x → w.cell? ((⟨g, off, none⟩ : Addr).add j) = some (.int .u8 x.toNat)) :
  (Builtin.unsafeString_ ts ty #[.pointer (some ⟨g, off, none⟩), .int .i64 l.length]).run P w = .ok (.string ⟨l.toArray⟩) (w.freeze ⟨g, off, none⟩ l.length) := by
 have hl : l.length ≠ 0 := by simpa using h0
 have hlb := Lib.run_loadBytes (P := P) w l ⟨g, off, none⟩ .empty hcell
 have hlies : liesAt P P.depth e (cells / P.cellsOf e) off e l.length = true := by
  have hd : P.depth = (2 * (P.types.size + Made.depth) + 1) + 1 := rfl
  rw [hd]
  simp only [liesAt, Bool.or_eq_true]
  left
  rw [hd]
  simp [rowAt, hc, hn, sameLayout, Nat.mod_one]
 have h63' : ¬ (9223372036854775807 : Int) < (l.length : Int) := by omega
 have hmax : IntKind.i64.max = 9223372036854775807 := rfl
 have hneg : ¬ (l.length : Int) < 0 := by omega
 rw [unsafeString_some]
 simp [ht, asInt, asIntOf, hmax, h63', hneg, hl, variablesAt, hsh, elemOf, run_underlying hp, hlies, hlb]

theorem ustr_sound (hi : Inv ρ σ w) {ts : Array TypeId} {ty : TypeId} {p n : AV} {yp yn : Value} {s : List Nat} {σ' : AHeap} (h : ustrA P σ ts[0]? p n = some (s, σ')) (hp : VR ρ p yp) (hn : VR ρ n yn) :
  ∃ z w', (Builtin.unsafeString_ ts ty #[yp, yn]).run P w = .ok z w' ∧ VR ρ (.str s) z ∧ Inv ρ σ' w' ∧ Stp ρ σ w ρ σ' w' := by
 unfold ustrA at h
 split at h
 ·rename_i k
  simp only [VR] at hn
  subst hn
  rw [ite_cond] at h
  split at h
  ·rename_i h0
   have := Nat.eq_of_beq_eq_true h0
   subst this
   split at h
   ·rename_i u1 u2 pt ht
    cases h
    simp only [VR] at hp
    subst hp
    exact ⟨_, w, run_unsafeString_zero ht _, by simp only [VR]; exact ⟨_, rfl, rfl⟩, hi, Stp.refl _ _ _⟩
   ·rename_i u1 u2 pt b off ht
    cases h
    simp only [VR] at hp
    obtain ⟨l, hl, rfl⟩ := hp
    exact ⟨_, w, run_unsafeString_zero ht _, by simp only [VR]; exact ⟨_, rfl, rfl⟩, hi, Stp.refl _ _ _⟩
   ·cases h
  ·rename_i h0
   rw [Nat.beq_eq] at h0
   split at h
   ·rename_i u1 u2 pt b off ht
    split at h
    ·rename_i u3 u4 u cells e hu hb
     rw [ite_cond] at h
     split at h
     ·rename_i hc
      simp only [Bool.and_eq_true, Nat.beq_eq, Nat.ble_eq, lenN_eq] at hc
      obtain ⟨rfl, hc1, hle, h63⟩ := hc
      split at h
      ·rename_i s' hs
       cases h
       simp only [VR] at hp
       obtain ⟨l, hl, rfl⟩ := hp
       rw [takeN_eq, dropN_eq] at hs
       obtain ⟨k1, k2, k3⟩ := bytes_of hs
       have hsl : s.length = k := by rw [k1, List.length_take, List.length_drop]; omega
       obtain ⟨c, fr, hh1, hh2, hh3, hh4, hh5⟩ := hi.row hb hl
       obtain ⟨ys, hyl, hys, hcell⟩ := hi.piece hb hl off k hle
       have hbt : ∀ n ∈ s, (UInt8.ofNat n).toNat = n := fun n hn => by
        have := k2 n hn
        rw [UInt8.toNat_ofNat']
        omega
       have hlen : (s.map UInt8.ofNat).length = k := by rw [List.length_map, hsl]
       have r := run_unsafeString_at (P := P) (w := w) (ty := ty) ht hu hc1 l.blk (l.sh + off) c.size (by simp [World.shape?, hh1]) (s.map UInt8.ofNat) (by intro e; rw [e] at hlen; simp at hlen; omega) (by rw [hlen]; omega) (by rw [hlen]; omega)
        (fun j x hx => by
         rw [List.getElem?_map] at hx
         cases hj : s[j]? with
         | none => rw [hj] at hx; cases hx
         | some m =>
          rw [hj] at hx
          cases hx
          have h1 := k3 j m hj
          obtain ⟨y, hy, hvy⟩ := hys.get h1
          simp only [VR] at hvy
          subst hvy
          rw [hcell j _ hy, hbt m (List.mem_of_getElem? hj)]
          rfl)
       rw [hlen] at r
       have hne : ¬ k = 0 := h0
       have hw : ∃ fr', (w.freeze ⟨l.blk, l.sh + off, none⟩ k).heap[l.blk]? = some (.cells c e fr') := by
        unfold World.freeze
        rw [if_neg hne]
        simp only [Array.getElem?_modify, hh1]
        exact ⟨_, rfl⟩
       obtain ⟨fr', hw⟩ := hw
       have hoth : ∀ r, r ≠ l.blk → (w.freeze ⟨l.blk, l.sh + off, none⟩ k).heap[r]? = w.heap[r]? := fun r hr => by
        unfold World.freeze
        rw [if_neg hne]
        simp only [Array.getElem?_modify]
        rw [if_neg (fun e => hr e.symm)]
       obtain ⟨i2, s2⟩ := hi.change2 hb hl rfl (o' := .row cells e true) hw ⟨c, fr', rfl, hh2, hh3, hh4, fun h => by cases h⟩ hoth (by unfold World.freeze; rw [if_neg hne]; simp) (by unfold World.freeze; rw [if_neg hne]) (by unfold World.freeze; rw [if_neg hne]) (by unfold World.freeze; rw [if_neg hne])
       refine ⟨_, _, r, ?_, i2, s2⟩
       simp only [VR]
       refine ⟨_, rfl, ?_⟩
       unfold strRel
       simp only [List.map_map]
       conv => rhs; rw [← List.map_id s]
       exact List.map_congr_left fun n hn => hbt n hn
      ·cases h
     ·cases h
    ·cases h
   ·cases h
 ·cases h

theorem bytes_sound (hi : Inv ρ σ w) {src dst : TypeId} {x v : AV} {y : Value} {σ' : AHeap} (h : bytesA P σ src dst x = .val v σ') (hx : VR ρ x y) :
  ∃ z w' ρ', (convert src dst y).run P w = .ok z w' ∧ VR ρ' v z ∧ Inv ρ' σ' w' ∧ Stp ρ σ w ρ' σ' w' := by
 unfold bytesA at h
 split at h
 ·rename_i e s hs hd
  split at h
  ·rename_i he
   rw [ite_cond] at h
   split at h
   ·rename_i hc1
    cases h
    simp only [VR] at hx
    obtain ⟨bs, rfl, hs'⟩ := hx
    have hcap : bs.size ≤ grownCap w bs.size 0 e := grownCap_ge _ _ _ _
    have hsz : (Lib.bytesCells w e bs).size = grownCap w bs.size 0 e := by
     unfold Lib.bytesCells
     simp
     have : bs.data.size = bs.size := rfl
     omega
    have hlen : lenN s = bs.size := strRel_size hs'
    have hlist : (mapN (fun c => AV.int .u8 (Int.ofNat c)) s).length = bs.size := by rw [mapN_eq, List.length_map, ← lenN_eq, hlen]
    have ho : ObjR ρ ⟨w.heap.size, 0, grownCap w bs.size 0 e⟩ (.row (mapN (fun c => AV.int .u8 (Int.ofNat c)) s) e true) (.cells (Lib.bytesCells w e bs) e ((Lib.bytesCells w e bs).size, (Lib.bytesCells w e bs).size + 1)) := by
     refine ⟨_, _, rfl, by simp [hsz], by rw [hlist]; exact hcap, fun i v hv => ?_, fun h => by cases h⟩
     rw [mapN_eq, List.getElem?_map] at hv
     cases hsi : s[i]? with
     | none => rw [hsi] at hv; cases hv
     | some m =>
      rw [hsi] at hv
      cases hv
      have hbi : (bs.data.toList.map UInt8.toNat)[i]? = some m := by unfold strRel at hs'; rw [hs']; exact hsi
      rw [List.getElem?_map] at hbi
      cases hq : bs.data.toList[i]? with
      | none => rw [hq] at hbi; cases hbi
      | some b =>
       rw [hq] at hbi
       cases hbi
       have hq' : bs.data[i]? = some b := by rw [← Array.getElem?_toList]; exact hq
       have hlt : i < bs.data.size := (Array.getElem?_eq_some_iff.1 hq').1
       refine ⟨.int .u8 b.toNat, ?_, by simp only [VR]; rfl⟩
       unfold Lib.bytesCells
       show ((bs.data.map fun b => Value.int .u8 b.toNat) ++ _)[0 + i]? = _
       rw [Nat.zero_add, Array.getElem?_append_left (by simpa using hlt), Array.getElem?_map, hq']
       rfl
    have hi1 := hi.drew
    obtain ⟨i2, s2⟩ := hi1.alloc (l := ⟨w.heap.size, 0, grownCap w bs.size 0 e⟩) (x := .cells (Lib.bytesCells w e bs) e ((Lib.bytesCells w e bs).size, (Lib.bytesCells w e bs).size + 1)) rfl ho
    have hw : (w.drew.alloc (.cells (Lib.bytesCells w e bs) e ((Lib.bytesCells w e bs).size, (Lib.bytesCells w e bs).size + 1))) = Lib.bytesWorld w e bs := by
     unfold Lib.bytesWorld World.freeze
     rw [if_neg (by omega)]
     have : ∀ (h : Array Obj) (a b : Obj) (f : Obj → Obj), f a = b → (h.push a).modify h.size f = h.push b := fun h a b f e => by
      apply Array.ext_getElem?
      intro i
      rw [Array.getElem?_modify, Array.getElem?_push, Array.getElem?_push]
      by_cases hi : h.size = i
      ·subst hi; simp [e]
      ·rw [if_neg hi, if_neg (fun e => hi e.symm), if_neg (fun e => hi e.symm)]
     simp only [World.alloc, World.drew]
     congr 1
     symm
     exact this w.heap _ _ _ rfl
    rw [hw] at i2 s2
    refine ⟨_, _, _, Lib.run_convert_string_bytes w src dst e bs hs hd he, ?_, i2, (Stp.drew ρ σ w).trans s2⟩
    simp only [VR]
    refine ⟨_, Ren.with_same _ _ _, .inl ⟨grownCap w bs.size 0 e, by rw [hlen], by rw [hlen]; exact hcap, by simp⟩⟩
   ·cases h
  ·cases h
 ·cases h
theorem bytesA_pan (P : Program) (σ : AHeap) (src dst : TypeId) (x : AV) (v : AV) (σ' : AHeap) : bytesA P σ src dst x ≠ .pan v σ' := by
 unfold bytesA
 repeat' split
 all_goals (try rw [ite_cond])
 all_goals (try split)
 all_goals (intro h; cases h)
theorem bytesA_val (P : Program) (σ : AHeap) (src dst : TypeId) (x : AV) : ∀ f args σ', bytesA P σ src dst x ≠ .enter f args σ' ∧ bytesA P σ src dst x ≠ .round f args σ' ∧ bytesA P σ src dst x ≠ .skip σ' := by
 intro f args σ'
 unfold bytesA
 repeat' split
 all_goals (try rw [ite_cond])
 all_goals (try split)
 all_goals exact ⟨(by intro h; cases h), (by intro h; cases h), (by intro h; cases h)⟩
end
end Go.Ev

/- Maps are written; the theorem of what turns memory or calls. -/
namespace Go.Ev
variable [Env]
section
variable {P : Program} {ρ : Ren} {σ : AHeap} {w : World}

theorem eqLeaf_same {x y : AV} {a c : Value} (h : eqLeaf x y = some true) (hx : VR ρ x a) (hy : VR ρ y c) (n : Nat) : Instr.sameBits n a c = true := by
 unfold eqLeaf at h
 split at h
 ·simp only [VR] at hx hy
  subst hx; subst hy
  simp only [Option.some.injEq, cond_beq] at h
  simp only [Instr.sameBits, h]
 ·rename_i j a' k b'
  simp only [ite_cond] at h
  split at h
  ·rename_i hk
   have := eqK_eq hk
   subst this
   simp only [Option.some.injEq, eqI_eq, decide_eq_true_eq] at h
   subst h
   simp only [VR] at hx hy
   subst hx; subst hy
   simp [Instr.sameBits]
  ·cases h
 ·simp only [VR] at hx hy
  obtain ⟨p, rfl, hp⟩ := hx
  obtain ⟨q, rfl, hq⟩ := hy
  simp only [Option.some.injEq] at h
  rw [strRel_eq hp hq] at h
  have e : p.toList = q.toList := by simpa using h
  simp only [Instr.sameBits, beq_toListBytes]
  simpa using e
 ·cases h

theorem beqCells_same : ∀ {xs ys : List AV} {as cs : List Value}, beqCells xs ys = true → VRs ρ xs as → VRs ρ ys cs → ∀ n, as.length = cs.length ∧ ((as.zip cs).all fun (x, y) => Instr.sameBits n x y) = true
 | [], [], as, cs, _, hx, hy, n => by rw [hx.nil_inv, hy.nil_inv]; simp
 | [], y :: ys, as, cs, h, hx, hy, n => by cases h
 | x :: xs, [], as, cs, h, hx, hy, n => by cases h
 | x :: xs, y :: ys, as, cs, h, hx, hy, n => by
  obtain ⟨a, as', rfl, h1, h2⟩ := hx.cons_inv
  obtain ⟨c, cs', rfl, h3, h4⟩ := hy.cons_inv
  have h' : (match eqLeaf x y with | some true => beqCells xs ys | _ => false) = true := h
  split at h'
  ·rename_i he
   obtain ⟨g1, g2⟩ := beqCells_same h' h2 h4 n
   refine ⟨by simp [g1], ?_⟩
   simp only [List.zip_cons_cons, List.all_cons, Bool.and_eq_true]
   exact ⟨eqLeaf_same he h1 h3 n, g2⟩
  ·cases h'

theorem sameKey_same {x y : AV} {a c : Value} (h : sameKey x y = true) (hx : VR ρ x a) (hy : VR ρ y c) (n : Nat) : Instr.sameBits (n + 1) a c = true := by
 unfold sameKey at h
 split at h
 ·simp only [VR] at hx hy
  obtain ⟨as, rfl, hx⟩ := hx
  obtain ⟨cs, rfl, hy⟩ := hy
  obtain ⟨g1, g2⟩ := beqCells_same h hx hy n
  simp only [Instr.sameBits, Bool.and_eq_true, beq_iff_eq]
  exact ⟨by simpa using g1, g2⟩
 ·split at h
  ·rename_i b hb
   subst h
   exact eqLeaf_same hb hx hy _
  ·cases h

theorem setEnt_eq (e : AEnt) (es : List AEnt) (i : Nat) : setEnt e es i = es.set i e := setNth_eq _ _ _
theorem delEnt_eq : ∀ (es : List AEnt) (i : Nat), delEnt es i = es.eraseIdx i
 | [], i => rfl
 | e :: es, 0 => rfl
 | e :: es, i + 1 => congrArg (e :: ·) (delEnt_eq es i)

theorem Inv.setMap (hi : Inv ρ σ w) {b : Pos} {l : Loc} {es es' : List AEnt} {clock clock' : Nat} {ys : Array MapEntry} (hb : σ.m.get b = some (.map es clock)) (hl : ρ b = some l) (he : EntR ρ es' ys.toList) :
  ∃ w', (setObj l.blk (.map ys clock')).run P w = .ok () w' ∧ Inv ρ (σ.setObj b (.map es' clock')) w' ∧ Stp ρ σ w ρ (σ.setObj b (.map es' clock')) w' := by
 obtain ⟨zs, hh, _⟩ := hi.mapObj hb hl
 refine ⟨{ w with heap := w.heap.setIfInBounds l.blk (.map ys clock') }, by simp [setObj, Sem.run, hh], ?_⟩
 have hlt := hi.blk b l hl
 exact hi.change hb hl rfl rfl (x := .map ys clock') (by simp [Array.getElem?_setIfInBounds, hlt]) ⟨ys, rfl, he⟩
  (fun r hr => by simp [Array.getElem?_setIfInBounds, Ne.symm hr]) (by simp) rfl rfl rfl

theorem update_sound (hi : Inv ρ σ w) {t : TypeId} {m k v : AV} {ym yk yv : Value} {σ' : AHeap} (h : updateA P σ t m k v = some σ') (hm : VR ρ m ym) (hk : VR ρ k yk) (hv : VR ρ v yv) :
  ∃ w', (Instr.mapUpdate t ym yk yv).run P w = .ok () w' ∧ Inv ρ σ' w' ∧ Stp ρ σ w ρ σ' w' := by
 unfold updateA at h
 split at h
 ·rename_i u1 u2 kt et b hu
  split at h
  ·rename_i es clock hb
   simp only [ite_cond] at h
   split at h
   ·rename_i hpk
    rw [Bool.and_eq_true] at hpk
    obtain ⟨hp, hsh⟩ := hpk
    simp only [VR] at hm
    obtain ⟨l, hl, rfl⟩ := hm
    obtain ⟨ys, hh, he⟩ := hi.mapObj hb hl
    have hck := checkKey_sound (w := w) hp hsh hk false
    split at h
    ·rename_i i u hf
     obtain ⟨r', g1, g2⟩ := find_sound (w := w) hp hk he hf
     cases r' with
     | none => exact g2.elim
     | some q =>
     obtain ⟨j, y⟩ := q
     obtain ⟨rfl, hy⟩ := g2
     rw [nth_eq] at h
     split at h
     ·rename_i e hn
      split at h
      ·rename_i hs
       cases h
       obtain ⟨ye, hye, e1, e2, e3⟩ := he.get hn
       have hsb := sameKey_same hs e1 hk 9999
       have hye' : ys[i]? = some ye := by rw [← Array.getElem?_toList]; exact hye
       have hkts : (Instr.keyThatStays (((ys[i]?).map (·.key)).getD yk) yk).run P w = .ok yk w := by
        simp [Instr.keyThatStays, hye', hsb]
       have hmod : (ys.modify i fun e => { e with key := yk, val := yv }).toList = ys.toList.set i { key := yk, val := yv, born := e.born } := by
        apply List.ext_getElem?
        intro q
        rw [Array.getElem?_toList, Array.getElem?_modify, List.getElem?_set]
        have hlt : i < ys.toList.length := (List.getElem?_eq_some_iff.1 hye).1
        by_cases eq : i = q
        ·subst eq; simp [hye', e3]; simpa using hlt
        ·simp [eq]
       obtain ⟨w', r, inv, st⟩ := hi.setMap (P := P) (clock' := clock) (es' := setEnt { key := k, val := v, born := e.born } es i) (ys := ys.modify i fun e => { e with key := yk, val := yv }) hb hl (by
        rw [hmod, setEnt_eq]; exact he.set i hk hv rfl)
       refine ⟨w', ?_, inv, st⟩
       simp only [Instr.mapUpdate, Sem.run_bind, run_underlying hu, Result.andThen_ok, run_getObj_map hh, hck, g1, hkts, r]
      ·cases h
     ·cases h
    ·rename_i hf
     cases h
     obtain ⟨r', g1, g2⟩ := find_sound (w := w) hp hk he hf
     cases r' with
     | some q => exact g2.elim
     | none =>
     obtain ⟨w', r, inv, st⟩ := hi.setMap (P := P) (clock' := clock + 1) (es' := appN es [{ key := k, val := v, born := clock }]) (ys := ys.push { key := yk, val := yv, born := clock }) hb hl (by
      rw [appN_eq, Array.toList_push]; exact he.append ⟨_, [], rfl, hk, hv, rfl, rfl⟩)
     refine ⟨w', ?_, inv, st⟩
     simp only [Instr.mapUpdate, Sem.run_bind, run_underlying hu, Result.andThen_ok, run_getObj_map hh, hck, g1, r]
    ·cases h
   ·cases h
  ·cases h
 ·cases h

theorem delete_sound (hi : Inv ρ σ w) {ts : Array TypeId} {ty : TypeId} {m k : AV} {ym yk : Value} {σ' : AHeap} (h : deleteA P σ ts m k = some σ') (hm : VR ρ m ym) (hk : VR ρ k yk) :
  ∃ w', (Builtin.delete_ ts ty #[ym, yk]).run P w = .ok (.tuple #[]) w' ∧ Inv ρ σ' w' ∧ Stp ρ σ w ρ σ' w' := by
 unfold deleteA at h
 split at h
 ·rename_i t ht
  split at h
  ·rename_i u1 u2 kt et b hu
   split at h
   ·rename_i es clock hb
    simp only [ite_cond] at h
    split at h
    ·rename_i hpk
     rw [Bool.and_eq_true] at hpk
     obtain ⟨hp, hsh⟩ := hpk
     simp only [VR] at hm
     obtain ⟨l, hl, rfl⟩ := hm
     obtain ⟨ys, hh, he⟩ := hi.mapObj hb hl
     have hck := checkKey_sound (w := w) hp hsh hk ys.isEmpty
     split at h
     ·rename_i i u hf
      cases h
      obtain ⟨r', g1, g2⟩ := find_sound (w := w) hp hk he hf
      cases r' with
      | none => exact g2.elim
      | some q =>
      obtain ⟨j, y⟩ := q
      obtain ⟨rfl, hy⟩ := g2
      obtain ⟨w', r, inv, st⟩ := hi.setMap (P := P) (clock' := clock) (es' := delEnt es i) (ys := ys.eraseIdxIfInBounds i) hb hl (by
       rw [Array.toList_eraseIdxIfInBounds, delEnt_eq]; exact he.erase i)
      refine ⟨w', ?_, inv, st⟩
      simp only [Builtin.delete_, ht, List.getElem?_toArray, List.getElem?_cons_zero, List.getElem?_cons_succ, Sem.run_bind, run_underlying hu, Result.andThen_ok, run_getObj_map hh, hck, g1, r, Sem.run_pure]
     ·rename_i hf
      cases h
      obtain ⟨r', g1, g2⟩ := find_sound (w := w) hp hk he hf
      cases r' with
      | some q => exact g2.elim
      | none =>
      obtain ⟨w', r, inv, st⟩ := hi.setMap (P := P) (clock' := clock) (es' := es) (ys := ys) hb hl he
      refine ⟨w', ?_, inv, st⟩
      simp only [Builtin.delete_, ht, List.getElem?_toArray, List.getElem?_cons_zero, List.getElem?_cons_succ, Sem.run_bind, run_underlying hu, Result.andThen_ok, run_getObj_map hh, hck, g1, r, Sem.run_pure]
     ·cases h
    ·cases h
   ·cases h
  ·cases h
 ·cases h

def HR.isVal : HR → Prop
 | .val .. => True
 | .err _ => True
 | _ => False
theorem append_val (P : Program) (σ : AHeap) (ts : Array TypeId) (s x : AV) : (appendA P σ ts s x).isVal := by
 unfold appendA
 simp only [ite_cond, grow]
 repeat' (first | trivial | split)
theorem appendZ_val (P : Program) (σ : AHeap) (ts : Array TypeId) (s x : AV) : (appendZ P σ ts s x).isVal := by
 unfold appendZ
 simp only [ite_cond, grow]
 repeat' (first | trivial | split)
theorem copy_val (P : Program) (σ : AHeap) (ts : Array TypeId) (s x : AV) : (copyA P σ ts s x).isVal := by
 unfold copyA
 simp only [ite_cond]
 repeat' (first | trivial | split)

theorem heavy_sound {ov : Nat → Bool} (hov : ∀ g, ov g = true → OvFact P g) (hi : Inv ρ σ w) {ev : Operand → Option AV} {f : Operand → Value} {o : Oper} {r : HR} (hE : ER ρ ev f o.op) (h : heavyA P ov ev σ o.op = r) (hne : ∀ n, r ≠ .err n) :
  HOut P ρ σ w r ((execOp f o).run P w) := by
 cases ho : o.op with
 | store t x y =>
  rw [ho] at h hE
  simp only [heavyA] at h
  cases hx : ev x with
  | none => rw [hx] at h; exact absurd h.symm (hne 11)
  | some a =>
  cases hy : ev y with
  | none => rw [hx, hy] at h; exact absurd h.symm (hne 11)
  | some v =>
  rw [hx, hy] at h
  dsimp only at h
  cases hs : storeA P σ t a v with
  | none => rw [hs] at h; exact absurd h.symm (hne 10)
  | some σ' =>
   rw [hs] at h
   subst h
   obtain ⟨w', r, inv, st⟩ := store_sound (P := P) hi hs (hE x (by simp [Op.operands]) a hx) (hE y (by simp [Op.operands]) v hy)
   have : (execOp f o).run P w = .ok .skip w' := by simp only [execOp, ho, Sem.run_bind, r, Result.andThen_ok, Sem.run_pure]
   rw [this]
   exact .skip inv st
 | mapUpdate t m k x =>
  rw [ho] at h hE
  simp only [heavyA] at h
  cases hm : ev m with
  | none => rw [hm] at h; exact absurd h.symm (hne 20)
  | some a =>
  cases hk : ev k with
  | none => rw [hm, hk] at h; exact absurd h.symm (hne 20)
  | some b =>
  cases hx : ev x with
  | none => rw [hm, hk, hx] at h; exact absurd h.symm (hne 20)
  | some v =>
  rw [hm, hk, hx] at h
  dsimp only at h
  cases hs : updateA P σ t a b v with
  | none => rw [hs] at h; exact absurd h.symm (hne 19)
  | some σ' =>
   rw [hs] at h
   subst h
   obtain ⟨w', r, inv, st⟩ := update_sound (P := P) hi hs (hE m (by simp [Op.operands]) a hm) (hE k (by simp [Op.operands]) b hk) (hE x (by simp [Op.operands]) v hx)
   have : (execOp f o).run P w = .ok .skip w' := by simp only [execOp, ho, Sem.run_bind, r, Result.andThen_ok, Sem.run_pure]
   rw [this]
   exact .skip inv st
 | insert t m k x =>
  rw [ho] at h hE
  simp only [heavyA] at h
  cases hm : ev m with
  | none => rw [hm] at h; exact absurd h.symm (hne 20)
  | some a =>
  cases hk : ev k with
  | none => rw [hm, hk] at h; exact absurd h.symm (hne 20)
  | some b =>
  cases hx : ev x with
  | none => rw [hm, hk, hx] at h; exact absurd h.symm (hne 20)
  | some v =>
  rw [hm, hk, hx] at h
  dsimp only at h
  cases hs : updateA P σ t a b v with
  | none => rw [hs] at h; exact absurd h.symm (hne 19)
  | some σ' =>
   rw [hs] at h
   subst h
   obtain ⟨w', r, inv, st⟩ := update_sound (P := P) hi hs (hE m (by simp [Op.operands]) a hm) (hE k (by simp [Op.operands]) b hk) (hE x (by simp [Op.operands]) v hx)
   have : (execOp f o).run P w = .ok .skip w' := by simp only [execOp, ho, Sem.run_bind, r, Result.andThen_ok, Sem.run_pure]
   rw [this]
   exact .skip inv st
 | call c =>
  rw [ho] at h hE
  simp only [heavyA] at h
  split at h
  ·rename_i g hcal
   split at h
   ·rename_i u1 u2 y args hg ha
    have hE' : ∀ x ∈ c.args.toList, ∀ v, ev x = some v → VR ρ v (f x) := fun x hx => hE x (by simp [Op.operands, Call.operands, hcal]; right; simpa using hx)
    have := call_out (P := P) (w := w) hov hi h hne (hE g (by simp [Op.operands, Call.operands, hcal]) y hg) (xs := c.args.map f) (by simpa using evs_sound ha hE')
    simpa only [execOp, ho, resolve, hcal] using this
   ·exact absurd h.symm (hne 12)
  ·rename_i hcal
   split at h
   ·rename_i u1 s x ha
    subst h
    have hE' : ∀ x ∈ c.args.toList, ∀ v, ev x = some v → VR ρ v (f x) := fun x hx => hE x (by simp [Op.operands, Call.operands, hcal]; simpa using hx)
    obtain ⟨ys, rs, e, h1, h2⟩ := (evs_sound ha hE').cons_inv
    obtain ⟨yx, rs', rfl, h3, h4⟩ := h2.cons_inv
    have := h4.nil_inv
    subst this
    have hargs : c.args.map f = #[ys, yx] := by rw [← Array.toList_inj]; simpa using e
    rw [ite_cond] at hne
    rw [ite_cond]
    split at hne
    ·rename_i hc
     rw [if_pos hc]
     have hv := append_val P σ c.argTypes s x
     cases hr : appendA P σ c.argTypes s x with
     | val v σ' =>
      obtain ⟨z, w', ρ', g1, g2, g3, g4⟩ := append_sound (P := P) (ty := o.type) hi hr h1 h3
      have : (execOp f o).run P w = .ok (.value z) w' := by
       simp only [execOp, ho, resolve, hcal, hargs, Sem.run_bind, Sem.run_pure, Result.andThen_ok, invoke, builtin, g1]
      rw [this]
      exact .val g2 g3 g4
     | err n => exact absurd hr (hne n)
     | _ => rw [hr] at hv; exact hv.elim
    ·rename_i hc
     rw [if_neg hc]
     have hv := appendZ_val P σ c.argTypes s x
     cases hr : appendZ P σ c.argTypes s x with
     | val v σ' =>
      obtain ⟨z, w', ρ', g1, g2, g3, g4⟩ := appendZ_sound (P := P) (ty := o.type) hi hr h1 h3
      have : (execOp f o).run P w = .ok (.value z) w' := by
       simp only [execOp, ho, resolve, hcal, hargs, Sem.run_bind, Sem.run_pure, Result.andThen_ok, invoke, builtin, g1]
      rw [this]
      exact .val g2 g3 g4
     | err n => exact absurd hr (hne n)
     | _ => rw [hr] at hv; exact hv.elim
   ·exact absurd h.symm (hne 13)
  ·rename_i hcal
   split at h
   ·rename_i u1 s x ha
    have hE' : ∀ x ∈ c.args.toList, ∀ v, ev x = some v → VR ρ v (f x) := fun x hx => hE x (by simp [Op.operands, Call.operands, hcal]; simpa using hx)
    obtain ⟨ys, rs, e, h1, h2⟩ := (evs_sound ha hE').cons_inv
    obtain ⟨yx, rs', rfl, h3, h4⟩ := h2.cons_inv
    have := h4.nil_inv
    subst this
    have hargs : c.args.map f = #[ys, yx] := by rw [← Array.toList_inj]; simpa using e
    cases hr : deleteA P σ c.argTypes s x with
    | none => rw [hr] at h; exact absurd h.symm (hne 17)
    | some σ' =>
     rw [hr] at h
     subst h
     obtain ⟨w', g1, g3, g4⟩ := delete_sound (P := P) (ty := o.type) hi hr h1 h3
     have : (execOp f o).run P w = .ok (.value (.tuple #[])) w' := by
      simp only [execOp, ho, resolve, hcal, hargs, Sem.run_bind, Sem.run_pure, Result.andThen_ok, invoke, builtin, g1]
     rw [this]
     exact .val (by simp only [VR]; exact ⟨_, rfl, VRs.nil⟩) g3 g4
   ·exact absurd h.symm (hne 18)
  ·rename_i hcal
   split at h
   ·rename_i u1 s x ha
    subst h
    have hE' : ∀ x ∈ c.args.toList, ∀ v, ev x = some v → VR ρ v (f x) := fun x hx => hE x (by simp [Op.operands, Call.operands, hcal]; simpa using hx)
    obtain ⟨ys, rs, e, h1, h2⟩ := (evs_sound ha hE').cons_inv
    obtain ⟨yx, rs', rfl, h3, h4⟩ := h2.cons_inv
    have := h4.nil_inv
    subst this
    have hargs : c.args.map f = #[ys, yx] := by rw [← Array.toList_inj]; simpa using e
    have hv := copy_val P σ c.argTypes s x
    cases hr : copyA P σ c.argTypes s x with
    | val v σ' =>
     obtain ⟨z, w', ρ', g1, g2, g3, g4⟩ := copy_sound (P := P) (ty := o.type) hi hr h1 h3
     have : (execOp f o).run P w = .ok (.value z) w' := by
      simp only [execOp, ho, resolve, hcal, hargs, Sem.run_bind, Sem.run_pure, Result.andThen_ok, invoke, builtin, g1]
     rw [this]
     exact .val g2 g3 g4
    | err n => exact absurd hr (hne n)
    | _ => rw [hr] at hv; exact hv.elim
   ·exact absurd h.symm (hne 14)
  ·rename_i hcal
   split at h
   ·rename_i u1 x ha
    have hE' : ∀ x ∈ c.args.toList, ∀ v, ev x = some v → VR ρ v (f x) := fun x hx => hE x (by simp [Op.operands, Call.operands, hcal]; simpa using hx)
    obtain ⟨ys, rs, e, h1, h2⟩ := (evs_sound ha hE').cons_inv
    have := h2.nil_inv
    subst this
    have hargs : c.args.map f = #[ys] := by rw [← Array.toList_inj]; simpa using e
    cases hr : clearA P σ c.argTypes x with
    | none => rw [hr] at h; exact absurd h.symm (hne 21)
    | some σ' =>
     rw [hr] at h
     subst h
     obtain ⟨w', g1, g3, g4⟩ := clear_sound (P := P) (ty := o.type) hi hr h1
     have : (execOp f o).run P w = .ok (.value (.tuple #[])) w' := by
      simp only [execOp, ho, resolve, hcal, hargs, Sem.run_bind, Sem.run_pure, Result.andThen_ok, invoke, builtin, g1]
     rw [this]
     exact .val (by simp only [VR]; exact ⟨_, rfl, VRs.nil⟩) g3 g4
   ·exact absurd h.symm (hne 22)
  ·rename_i hcal
   split at h
   ·rename_i u1 x ha
    have hE' : ∀ x ∈ c.args.toList, ∀ v, ev x = some v → VR ρ v (f x) := fun x hx => hE x (by simp [Op.operands, Call.operands, hcal]; simpa using hx)
    obtain ⟨ys, rs, e, h1, h2⟩ := (evs_sound ha hE').cons_inv
    have := h2.nil_inv
    subst this
    have hargs : c.args.map f = #[ys] := by rw [← Array.toList_inj]; simpa using e
    cases hr : dataA x with
    | none => rw [hr] at h; exact absurd h.symm (hne 27)
    | some v =>
     rw [hr] at h
     subst h
     obtain ⟨z, g1, g2⟩ := data_sound (P := P) (w := w) (ts := c.argTypes) (ty := o.type) hr h1
     have : (execOp f o).run P w = .ok (.value z) w := by
      simp only [execOp, ho, resolve, hcal, hargs, Sem.run_bind, Sem.run_pure, Result.andThen_ok, invoke, builtin, g1]
     rw [this]
     exact .val g2 hi (Stp.refl _ _ _)
   ·exact absurd h.symm (hne 28)
  ·rename_i hcal
   split at h
   ·rename_i u1 s x ha
    have hE' : ∀ x ∈ c.args.toList, ∀ v, ev x = some v → VR ρ v (f x) := fun x hx => hE x (by simp [Op.operands, Call.operands, hcal]; simpa using hx)
    obtain ⟨ys, rs, e, h1, h2⟩ := (evs_sound ha hE').cons_inv
    obtain ⟨yx, rs', rfl, h3, h4⟩ := h2.cons_inv
    have := h4.nil_inv
    subst this
    have hargs : c.args.map f = #[ys, yx] := by rw [← Array.toList_inj]; simpa using e
    cases hr : ustrA P σ c.argTypes[0]? s x with
    | none => rw [hr] at h; exact absurd h.symm (hne 29)
    | some q =>
     obtain ⟨q, σ'⟩ := q
     rw [hr] at h
     subst h
     obtain ⟨z, w', g1, g2, g3, g4⟩ := ustr_sound (P := P) (ty := o.type) hi hr h1 h3
     have : (execOp f o).run P w = .ok (.value z) w' := by
      simp only [execOp, ho, resolve, hcal, hargs, Sem.run_bind, Sem.run_pure, Result.andThen_ok, invoke, builtin, g1]
     rw [this]
     exact .val g2 g3 g4
   ·exact absurd h.symm (hne 30)
  ·exact absurd h.symm (hne 15)
 | convert src dst x =>
  rw [ho] at h hE
  simp only [heavyA] at h
  cases hx : ev x with
  | none => rw [hx] at h; exact absurd h.symm (hne 23)
  | some a =>
   rw [hx] at h
   dsimp only at h
   cases hr : bytesA P σ src dst a with
   | val v σ' =>
    rw [hr] at h
    subst h
    obtain ⟨z, w', ρ', g1, g2, g3, g4⟩ := bytes_sound (P := P) hi hr (hE x (by simp [Op.operands]) a hx)
    have : (execOp f o).run P w = .ok (.value z) w' := by simp only [execOp, ho, Sem.run_bind, g1, Result.andThen_ok, Sem.run_pure]
    rw [this]
    exact .val g2 g3 g4
   | err n => rw [hr] at h; exact absurd h.symm (hne n)
   | skip σ' => exact absurd hr (bytesA_val P σ src dst a 0 [] σ').2.2
   | enter g args σ' => exact absurd hr (bytesA_val P σ src dst a g args σ').1
   | round g args σ' => exact absurd hr (bytesA_val P σ src dst a g args σ').2.1
   | pan q σ' => exact absurd hr (bytesA_pan P σ src dst a q σ')
 | panic x =>
  rw [ho] at h hE
  simp only [heavyA] at h
  split at h
  ·rename_i t v hx
   subst h
   have hv := hE x (by simp [Op.operands]) _ hx
   have hv' := hv
   simp only [VR] at hv'
   obtain ⟨y, hf, _⟩ := hv'
   have : (execOp f o).run P w = .halt (.panic (f x)) w := by
    simp only [execOp, ho, hf, Instr.panic, Sem.run_bind]
    rfl
   rw [this]
   exact .pan hv
  ·exact absurd h.symm (hne 32)
 | _ => rw [ho] at h; exact absurd h.symm (hne 16)
end
end Go.Ev

/- The evaluator: code, calls, rounds. -/
namespace Go.Ev
variable [Env]

inductive Ex where
 | normal
 | exit (id : Nat)
 | goto (l : Nat)
 | ret
 | pan (v : AV)

/-- A deferred call: a range over a function's mark; a function with its arguments, and what it has captured. -/
inductive DE where
 | mark (b : Pos)
 | call (f : Nat) (args ca : List AV)

/-- What a piece of code comes to. -/
inductive CR where
 | ok (e : Ex) (t : PT AV) (d : List DE) (σ : AHeap)
 | err (n : Nat)
/-- What a call comes to. -/
inductive KR where
 | ret (v : AV) (σ : AHeap)
 | pan (v : AV) (σ : AHeap)
 | err (n : Nat)

inductive Kind where
 | pure | read | alloc | heavy

def isMap (P : Program) (t : Option TypeId) : Bool :=
 match t with
 | some t => match P.underlying t with | some (.map _ _) => true | _ => false
 | none => false

/-- Is it a conversion of a slice to a string? -/
noncomputable def toStr (P : Program) (src dst : TypeId) : Bool :=
 match underF P src, underF P dst with
 | some (.slice _), some .string => true
 | some (.pointer _), some .unsafePointer => true
 | some .unsafePointer, some (.pointer _) => true
 | _, _ => false
/-- Is it a conversion of a string to bytes? -/
noncomputable def ofStr (P : Program) (src dst : TypeId) : Bool :=
 match underF P src, underF P dst with
 | some .string, some (.slice _) => true
 | _, _ => false
noncomputable def kindOf (P : Program) : Op → Kind
 | .convert src dst _ => bif toStr P src dst then .read else (bif ofStr P src dst then .heavy else .pure)
 | .load .. | .lookup .. => .read
 | .alloc .. | .box .. | .buildSlice .. | .makeSlice .. | .makeMap .. => .alloc
 | .store .. | .mapUpdate .. | .insert .. => .heavy
 | .call c => match c.callee with
  | .builtin .len => bif isMap P c.argTypes[0]? then .read else .pure
  | .builtin .min | .builtin .max | .builtin .cap => .pure
  | _ => .heavy
 | .defer _ | .panic _ => .heavy
 | _ => .pure

/-- What a program's evaluation leans on: so many globals are laid; which functions are 'slices.overlaps'; which look at a capacity (they are called twice, on what they touch alone); calls that are known. -/
structure ME where
 f : Nat
 args : List AV
 next : Nat
 l : List (Nat × AObj)
 v : AV
 next' : Nat
 l' : List (Nat × AObj)
structure Cx where
 gl : Nat
 ov : Nat → Bool
 fk : Nat → Bool
 tbl : Nat → List AV → Option AV
 laid : List (Nat × List AV)
 mem : List ME := []
 stop : Nat → List AV → AHeap → Option Nat := fun _ _ _ => none
 ktb : Nat → List AV → AHeap → Option AV := fun _ _ _ => none

/-- Operands. -/
noncomputable def evalT (G : Cx) (t : PT AV) : Operand → Option AV
 | .tmp k => t.get (posOf k)
 | .const v => ofVal v
 | .global g => bif Nat.ble (Nat.succ g) G.gl then some (.ptr (posOf g) 0) else none
 | .func f => some (.func f [] [])

/-- Which operation failed. -/
def opTag : Op → Nat
 | .move .. => 1
 | .assign .. => 2
 | .pick .. => 3
 | .alloc .. => 4
 | .box .. => 5
 | .build .. => 6
 | .buildSlice .. => 7
 | .insert .. => 8
 | .load .. => 9
 | .store .. => 10
 | .ready .. => 11
 | .waits .. => 12
 | .nilCheck .. => 13
 | .binOp .. => 14
 | .unOp .. => 15
 | .convert .. => 16
 | .sliceToArrayPointer .. => 17
 | .makeInterface .. => 18
 | .makeFunc .. => 19
 | .makeMap .. => 20
 | .makeChan .. => 21
 | .makeSlice .. => 22
 | .slice .. => 23
 | .fieldAddr .. => 24
 | .field .. => 25
 | .indexAddr .. => 26
 | .index .. => 27
 | .lookup .. => 28
 | .mapUpdate .. => 29
 | .mapEntry .. => 30
 | .entryStore .. => 31
 | .range .. => 32
 | .next .. => 33
 | .entry .. => 34
 | .typeAssert .. => 35
 | .extract .. => 36
 | .call .. => 37
 | .go .. => 38
 | .defer .. => 39
 | .panic .. => 40
 | .send .. => 41
 | .recv .. => 42
 | .select .. => 43
noncomputable def opX (P : Program) (G : Cx) (ev : Operand → Option AV) (σ : AHeap) (op : Op) : HR :=
 match kindOf P op with
 | .pure => match pureA P ev op with | some v => .val v σ | none => .err (Nat.add 1000 (opTag op))
 | .read => match readA P ev σ op with | some v => .val v σ | none => .err (Nat.add 2000 (opTag op))
 | .alloc => match allocA P ev op with | some (ob, mk) => .val (mk.of σ.next) (σ.alloc ob) | none => .err (Nat.add 3000 (opTag op))
 | .heavy => heavyA P G.ov ev σ op

/-- A temporary is set. -/
noncomputable def putT (t : PT AV) (n : Nat) (dst : Option Nat) (v : AV) : Option (PT AV) :=
 match dst with
 | none => some t
 | some k => bif Nat.ble (Nat.succ k) n then some (t.put (some v) (posOf k)) else none

def unit : AV := .tuple []

/-- Is the operation wanted? -/
noncomputable def wantedA (ops : Array Oper) (t : PT AV) (o : Oper) : Option Bool :=
 match o.guard with
 | none => some true
 | some (j, want) => match (ops[j]?).bind (·.dst) with
  | some k => match t.get (posOf k) with
   | some (.bool b) => some (bif b then want else (bif want then false else true))
   | some (.tuple _) => some false
   | _ => none
  | none => some false

abbrev IhC := Code → PT AV → Nat → List DE → Option Pos → AHeap → CR

noncomputable def putAll (n : Nat) (ks : List Nat) (vs : List AV) (t : PT AV) : Option (PT AV) :=
 List.rec (motive := fun _ => List AV → PT AV → Option (PT AV)) (fun vs t => List.rec (motive := fun _ => Option (PT AV)) (some t) (fun _ _ _ => none) vs)
  (fun k _ ih vs t => List.rec (motive := fun _ => Option (PT AV)) none (fun v r _ => match putT t n (some k) v with | some t' => ih r t' | none => none) vs) ks vs t

/-- The way out of a round, as the jump that it leaves. -/
def jumpOf : Ex → Option Code
 | .normal => none
 | .ret => some .ret
 | .exit id => some (.exit id)
 | .goto g => some (.goto g)
 | .pan _ => none
def isPan : Ex → Bool
 | .pan _ => true
 | _ => false
def stateOf : Ex → LoopState
 | .normal => .ready
 | _ => .done
def wentOn : Ex → Bool
 | .normal => true
 | _ => false

/-- A round of a range over a function: yield is called. -/
noncomputable def roundX (ih : IhC) (l : Pos) (args : List AV) (σ : AHeap) : KR :=
 match σ.m.get l with
 | some (.loop _ _ tmps n params assign body _) =>
  match putAll n params args tmps with
  | some t => match ih assign t n [] (some l) σ with
   | .ok .normal t [] σ₁ => match σ₁.m.get l with
    | some (.loop .ready p tmps n' params assign body' df) =>
     match ih body t n [] (some l) (σ₁.setObj l (.loop .busy p tmps n' params assign body' df)) with
     | .ok e _ [] σ₂ => bif isPan e then .err 67 else match σ₂.m.get l with
      | some (.loop _ _ tmps n params assign body df) => .ret (.bool (wentOn e)) (σ₂.setObj l (.loop (stateOf e) (jumpOf e) tmps n params assign body df))
      | _ => .err 61
     | .err k => .err k
     | _ => .err 62
    | _ => .err 63
   | .err k => .err k
   | _ => .err 64
  | none => .err 65
 | _ => .err 66

noncomputable def argsT (n : Nat) (args : List AV) : Option (PT AV) :=
 List.rec (motive := fun _ => Nat → PT AV → Option (PT AV)) (fun _ t => some t) (fun v _ ih k t => match putT t n (some k) v with | some t' => ih (Nat.succ k) t' | none => none) args 0 .leaf

/-- One of a function's results. -/
noncomputable def resultA (P : Program) (t : PT AV) (σ : AHeap) : ResultVar → Option AV
 | .tmp k => t.get (posOf k)
 | .cell k ty => match t.get (posOf k) with
  | some (.ptr b off) => match σ.m.get b with
   | some (.row cells _ _) => match aggOf P ty with
    | some (some n) => bif Nat.ble (off + n) (lenN cells) then some (.agg (takeN (dropN cells off) n)) else none
    | some none => nth cells off
    | none => none
   | _ => none
  | _ => none
noncomputable def resultsA (P : Program) (fn : Func) (t : PT AV) (σ : AHeap) : Option AV :=
 match allSome (resultA P t σ) fn.results.toList with
 | some [v] => some v
 | some vs => some (.tuple vs)
 | none => none

/-! How a function leaves: its deferred calls; what they recover. -/
inductive Md where
 | ret
 | pan (v : AV)
 | rcv (v : AV)
inductive SR where
 | ok (e : Ex) (t : PT AV) (d : List DE) (md : Md) (σ : AHeap)
 | err (n : Nat)
def isRec (o : Oper) : Bool :=
 match o.op with
 | .call c => match c.callee with
  | .builtin .recover => true
  | _ => false
 | _ => false
def recV : Md → AV
 | .pan v => v
 | _ => .nilIface
def recM : Md → Md
 | .pan v => .rcv v
 | m => m
def settleM : Md → Md
 | .rcv _ => .ret
 | m => m
/-- One operation of a region of a deferred call that recovers. -/
noncomputable def oneS (P : Program) (G : Cx) (ops : Array Oper) (n : Nat) (o : Oper) (t : PT AV) (md : Md) (σ : AHeap) (k : PT AV → Md → AHeap → SR) : SR :=
 match wantedA ops t o with
 | some true => bif isRec o then (match putT t n o.dst (recV md) with | some t' => k t' (recM md) σ | none => .err 80) else
  match opX P G (evalT G t) σ o.op with
  | .val v σ' => (match putT t n o.dst v with | some t' => k t' md σ' | none => .err 80)
  | .skip σ' => (match putT t n o.dst unit with | some t' => k t' md σ' | none => .err 80)
  | _ => .err 201
 | some false => match putT t n o.dst unit with | some t' => k t' md σ | none => .err 84
 | none => .err 85
noncomputable def opsS (P : Program) (G : Cx) (ops : Array Oper) (n : Nat) (l : List Oper) : PT AV → Md → AHeap → SR :=
 List.rec (motive := fun _ => PT AV → Md → AHeap → SR) (fun t md σ => .ok .normal t [] md σ)
  (fun o _ k t md σ => oneS P G ops n o t md σ k) l
noncomputable def liftS (md : Md) (r : CR) : SR :=
 match r with
 | .ok e t d σ => .ok e t d md σ
 | .err n => .err n
def hasRec (ops : List Oper) : Bool := ops.any isRec
noncomputable def seqS (r : SR) (k : PT AV → Md → AHeap → SR) : SR :=
 match r with
 | .ok .normal t [] md σ => k t md σ
 | .ok .normal _ _ _ _ => .err 203
 | r => r
noncomputable def codeS (P : Program) (G : Cx) (ih : IhC) (fuel : Nat) : Code → PT AV → Nat → Md → AHeap → SR :=
 Nat.rec (motive := fun _ => Code → PT AV → Nat → Md → AHeap → SR) (fun _ _ _ _ _ => .err 202)
  (fun _ rc c t n md σ => match c with
   | .seq a b => seqS (rc a t n md σ) (fun t md σ => rc b t n md σ)
   | .region id ops draw => bif draw then liftS md (ih (.region id ops draw) t n [] none σ) else bif hasRec ops.toList then opsS P G ops n ops.toList t md σ else liftS md (ih (.region id ops draw) t n [] none σ)
   | c => liftS md (ih c t n [] none σ)) fuel
/-- A deferred call: how the frame below leaves behind it. -/
noncomputable def endS (P : Program) (fn : Func) (r : SR) : Option (Md × AHeap) :=
 match r with
 | .ok .normal t [] md σ => match resultsA P fn t σ with | some _ => some (settleM md, σ) | none => none
 | .ok .ret t [] md σ => match resultsA P fn t σ with | some _ => some (settleM md, σ) | none => none
 | _ => none
noncomputable def runDef (P : Program) (G : Cx) (ih : IhC) (f : Nat) (args : List AV) (md : Md) (σ : AHeap) : Option (Md × AHeap) :=
 match P.funcs[f]? with
 | some fn => match fn.body, argsT fn.ntmps args with
  | some c, some t => endS P fn (codeS P G ih 30 c t fn.ntmps md σ)
  | _, _ => none
 | none => none
noncomputable def leaveX (P : Program) (G : Cx) (ih : IhC) (d : List DE) : Md → AHeap → Option (Md × AHeap) :=
 List.rec (motive := fun _ => Md → AHeap → Option (Md × AHeap)) (fun md σ => some (md, σ))
  (fun e _ k md σ => match e with
   | .mark b => match σ.m.get b with
    | some .mark => k md (σ.setObj b .dead)
    | _ => none
   | .call f args ca => bif isGo P f then (match runDef P G ih f (appN args ca) md σ with
    | some (md', σ') => k md' σ'
    | none => none) else none) d

noncomputable def endX (P : Program) (G : Cx) (ih : IhC) (fn : Func) (md : Md) (t : PT AV) (d : List DE) (σ : AHeap) : KR :=
 match leaveX P G ih d md σ with
 | some (.ret, σ) => match resultsA P fn t σ with | some v => .ret v σ | none => .err 70
 | some (.pan v, σ) => .pan v σ
 | _ => .err 71

noncomputable def callC (P : Program) (G : Cx) (ih : IhC) (f : Nat) (args : List AV) (σ : AHeap) : KR :=
 match P.funcs[f]? with
 | some fn => match fn.body, argsT fn.ntmps args with
  | some c, some t => match ih c t fn.ntmps [] none σ with
   | .ok .normal t d σ => endX P G ih fn .ret t d σ
   | .ok .ret t d σ => endX P G ih fn .ret t d σ
   | .ok (.pan v) t d σ => endX P G ih fn (.pan v) t d σ
   | .err k => .err k
   | _ => .err 72
  | _, _ => .err 73
 | none => .err 74
/-- Nothing panics here. -/
noncomputable def noPanK (r : KR) : KR :=
 match r with
 | .pan _ _ => .err 69
 | r => r

/-- Has a value no places in memory? -/
def flatB : AV → Bool
 | .bool _ | .int _ _ | .str _ | .nilPtr | .nilSlice | .nilMap | .nilFunc | .nilIface => true
 | _ => false
noncomputable def allFlat (l : List AV) : Bool := List.rec (motive := fun _ => Bool) true (fun v _ r => bif flatB v then r else false) l
noncomputable def eqFlat (x y : AV) : Bool :=
 match x, y with
 | .bool a, .bool b => bif a then b else (bif b then false else true)
 | .int j a, .int k b => eqK j k && eqI a b
 | .str a, .str b => eqS a b
 | .nilPtr, .nilPtr => true
 | .nilSlice, .nilSlice => true
 | .nilMap, .nilMap => true
 | .nilFunc, .nilFunc => true
 | .nilIface, .nilIface => true
 | _, _ => false
noncomputable def eqFlats (xs ys : List AV) : Bool :=
 List.rec (motive := fun _ => List AV → Bool) (fun ys => List.rec (motive := fun _ => Bool) true (fun _ _ _ => false) ys)
  (fun x _ ih ys => List.rec (motive := fun _ => Bool) false (fun y r _ => bif eqFlat x y then ih r else false) ys) xs ys
noncomputable def replN (n : Nat) (v : AV) : List AV := Nat.rec (motive := fun _ => List AV) [] (fun _ l => v :: l) n

/-- Two blocks alone. -/
noncomputable def twoBlocks (σ : AHeap) (b : Pos) (o : AObj) (vb : Pos) (o' : AObj) : AHeap := { next := σ.next, m := (PT.leaf.put (some o) b).put (some o') vb }

/-- What is read of a run on the two blocks: the result's elements. -/
noncomputable def forkRes (vb : Pos) (vc : List AV) (ve e sz : Nat) (r : KR) (ok : Cap → Nat → Bool) : Option (Nat × List AV) :=
 match r with
 | .ret (.slice b1 o1 n1 c1) σ1 =>
  match σ1.m.get b1, σ1.m.get vb with
  | some (.row cs1 e1 false), some (.row vc1 ve1 false) =>
   bif ok c1 n1 && ((bif samePos b1 vb then false else true) && (eqFlats vc vc1 && (Nat.beq ve ve1 && (Nat.beq e e1 && (Nat.ble 1 n1 && (Nat.ble (o1 + n1 * sz) (lenN cs1) && allFlat (takeN (dropN cs1 o1) (n1 * sz)))))))) then
    some (n1, takeN (dropN cs1 o1) (n1 * sz))
   else none
  | _, _ => none
 | _ => none
def isUpto (sz : Nat) (c : Cap) (_ : Nat) : Bool :=
 match c with
 | .upto s => Nat.beq s sz
 | _ => false
def isLeast (sz : Nat) (c : Cap) (n : Nat) : Bool :=
 match c with
 | .least a s => Nat.beq s sz && Nat.ble n a
 | _ => false

/-- A call that looks at its first argument's capacity: both ways, on what it touches. -/
noncomputable def forkX (P : Program) (G : Cx) (ih : IhC) (f : Nat) (args : List AV) (σ : AHeap) : KR :=
 match args with
 | [.slice b off n (.upto sz), i, .slice vb voff m (.known mc)] =>
  match σ.m.get b, σ.m.get vb with
  | some (.row cells e false), some (.row vc ve false) =>
   bif (bif samePos b vb then false else true) && (Nat.ble 1 n && (Nat.beq m 1 && (flatB i && (allFlat vc && Nat.ble (off + n * sz) (lenN cells))))) then
    match forkRes vb vc ve e sz (callC P G ih f [.slice b off n (.known n), i, .slice vb voff m (.known mc)] (twoBlocks σ b (.row cells e false) vb (.row vc ve false))) (isUpto sz),
     forkRes vb vc ve e sz (callC P G ih f [.slice b off n (.least (Nat.succ n) sz), i, .slice vb voff m (.known mc)] (twoBlocks σ b (.row (appN (takeN cells (off + n * sz)) (replN sz .any)) e false) vb (.row vc ve false))) (isLeast sz) with
    | some (n1, r1), some (n2, r2) => bif Nat.beq n1 n2 && eqFlats r1 r2 then .ret (.slice σ.next 0 n1 (.upto sz)) ((σ.drop b).alloc (.row r1 e false)) else .err 75
    | _, _ => .err 76
   else .err 77
  | _, _ => .err 78
 | _ => callC P G ih f args σ

/-- Do the laid variables lie in the heap? -/
noncomputable def laidGo (gl : Nat) (σ : AHeap) (l : List (Nat × List AV)) : Bool :=
 List.rec (motive := fun _ => Bool) true (fun x _ r => bif Nat.ble (Nat.succ x.1) gl then (match σ.m.get x.1 with
  | some (.row cells _ true) => bif allFlat x.2 then (bif eqFlats cells x.2 then r else false) else false
  | _ => false) else false) l
noncomputable def beqA (x y : AV) : Bool :=
 match x, y with
 | .agg xs, .agg ys => beqL xs ys
 | x, y => beq1 x y
where
 beqP (p q : Pos) : Bool := Nat.beq p q
 beqC (c d : Cap) : Bool :=
  match c, d with
  | .known a, .known b => Nat.beq a b
  | .upto a, .upto b => Nat.beq a b
  | _, _ => false
 beq1 (x y : AV) : Bool :=
  match x, y with
  | .bool a, .bool b => bif a then b else (bif b then false else true)
  | .int j a, .int k b => eqK j k && eqI a b
  | .str a, .str b => eqS a b
  | .nilPtr, .nilPtr => true
  | .tok a, .tok b => Nat.beq a b
  | .ptr b o, .ptr b' o' => beqP b b' && Nat.beq o o'
  | .nilSlice, .nilSlice => true
  | .slice b o l c, .slice b' o' l' c' => beqP b b' && Nat.beq o o' && Nat.beq l l' && beqC c c'
  | .nilMap, .nilMap => true
  | .map b, .map b' => beqP b b'
  | .nilFunc, .nilFunc => true
  | .nilIface, .nilIface => true
  | .func f [] [], .func g [] [] => Nat.beq f g
  | .func f [] [.ptr b o], .func g [] [.ptr b' o'] => Nat.beq f g && beqP b b' && Nat.beq o o'
  | _, _ => false
 beqL (xs ys : List AV) : Bool :=
  List.rec (motive := fun _ => List AV → Bool) (fun ys => List.rec (motive := fun _ => Bool) true (fun _ _ _ => false) ys)
   (fun x _ ih ys => List.rec (motive := fun _ => Bool) false (fun y r _ => bif beq1 x y then ih r else false) ys) xs ys

/-! Calls that were reckoned apart: with what they touch. -/
noncomputable def beqAs (xs ys : List AV) : Bool :=
 List.rec (motive := fun _ => List AV → Bool) (fun ys => List.rec (motive := fun _ => Bool) true (fun _ _ _ => false) ys)
  (fun x _ ih ys => List.rec (motive := fun _ => Bool) false (fun y r _ => bif beqA x y then ih r else false) ys) xs ys
noncomputable def beqV (x y : AV) : Bool :=
 match x, y with
 | .tuple xs, .tuple ys => beqAs xs ys
 | x, y => beqA x y
noncomputable def eqEnts (xs ys : List AEnt) : Bool :=
 List.rec (motive := fun _ => List AEnt → Bool) (fun ys => List.rec (motive := fun _ => Bool) true (fun _ _ _ => false) ys)
  (fun x _ ih ys => List.rec (motive := fun _ => Bool) false (fun y r _ => bif beqA x.key y.key then (bif beqA x.val y.val then (bif Nat.beq x.born y.born then ih r else false) else false) else false) ys) xs ys
noncomputable def eqObj (x y : AObj) : Bool :=
 match x, y with
 | .row c e false, .row c' e' false => bif Nat.beq e e' then beqA.beqL c c' else false
 | .own c e, .own c' e' => bif Nat.beq e e' then beqA.beqL c c' else false
 | .map es k, .map es' k' => bif Nat.beq k k' then eqEnts es es' else false
 | .iter s p, .iter s' p' => bif Nat.beq p p' then eqS s s' else false
 | .mark, .mark => true
 | .dead, .dead => true
 | _, _ => false
noncomputable def subL (l : List (Nat × AObj)) (σ : AHeap) : Bool :=
 List.rec (motive := fun _ => Bool) true (fun x _ r => match σ.m.get x.1 with | some o => bif eqObj o x.2 then r else false | none => false) l
noncomputable def hitM (gl : Nat) (laid : List (Nat × List AV)) (e : ME) (f : Nat) (args : List AV) (σ : AHeap) : Bool :=
 bif Nat.beq e.f f then (bif beqAs args e.args then (bif Nat.beq σ.next e.next then (bif laidGo gl σ laid then subL e.l σ else false) else false) else false) else false
noncomputable def findM (gl : Nat) (laid : List (Nat × List AV)) (mem : List ME) (f : Nat) (args : List AV) (σ : AHeap) : Option ME :=
 List.rec (motive := fun _ => Option ME) none (fun e _ r => bif hitM gl laid e f args σ then some e else r) mem
noncomputable def dropAll (l : List (Nat × AObj)) (m : PT AObj) : PT AObj := List.rec (motive := fun _ => PT AObj) m (fun x _ r => r.put none x.1) l
noncomputable def putAllM (l : List (Nat × AObj)) (m : PT AObj) : PT AObj := List.rec (motive := fun _ => PT AObj) m (fun x _ r => r.put (some x.2) x.1) l
noncomputable def layM (σ : AHeap) (e : ME) : AHeap := { next := e.next', m := putAllM e.l' (dropAll e.l σ.m) }
/-- The laid variables, whatever their elements' types. -/
noncomputable def laidPT (l : List (Nat × List AV)) (E : Nat → TypeId) : PT AObj := l.foldl (fun m x => m.put (some (.row x.2 (E x.1) true)) (posOf x.1)) .leaf
/-- What such a call begins with. -/
noncomputable def baseM (laid : List (Nat × List AV)) (E : Nat → TypeId) (e : ME) : AHeap := { next := e.next, m := putAllM e.l (laidPT laid E) }
noncomputable def wfM (gl : Nat) (laid : List (Nat × List AV)) (e : ME) : Bool :=
 Nat.ble gl e.next && (Nat.ble e.next e.next' && ((laid.all fun x => Nat.blt x.1 gl) && ((e.l.all fun x => Nat.ble gl x.1 && (Nat.blt x.1 e.next && !x.2.ro)) && (e.l'.all fun x => Nat.ble gl x.1 && (Nat.blt x.1 e.next' && (!x.2.ro && (Nat.ble e.next x.1 || e.l.any fun y => Nat.beq y.1 x.1)))))))

/-- Is the place that of the end? There nothing is looked at. -/
def atEnd (args : List AV) : Bool :=
 match args with
 | [.slice _ _ n _, .int _ (.ofNat j), _] => Nat.beq j n
 | _ => false
noncomputable def forkY (P : Program) (G : Cx) (ih : IhC) (f : Nat) (args : List AV) (σ : AHeap) : KR := bif atEnd args then callC P G ih f args σ else forkX P G ih f args σ

noncomputable def callX (P : Program) (G : Cx) (ih : IhC) (f : Nat) (args : List AV) (σ : AHeap) : KR :=
 match G.ktb f args σ with
 | some v => bif flatB v then .ret v σ else .err 78
 | none => match G.tbl f args with
 | some v => bif allFlat args && (flatB v && laidGo G.gl σ G.laid) then .ret v σ else .err 79
 | none => match findM G.gl G.laid G.mem f args σ with
  | some e => .ret e.v (layM σ e)
  | none => match G.stop f args σ with
   | some c => .err c
   | none => bif G.fk f then noPanK (forkY P G ih f args σ) else callC P G ih f args σ

/-- What an operation comes to, calls and rounds and all. -/
noncomputable def effX (P : Program) (G : Cx) (ih : IhC) (r : HR) : KR :=
 match r with
 | .val v σ => .ret v σ
 | .skip σ => .ret unit σ
 | .enter f args σ => callX P G ih f args σ
 | .round l args σ => roundX ih l args σ
 | .pan v σ => .pan v σ
 | .err e => .err e

/-- One operation of a region. -/
noncomputable def panX (pn : Bool) (v : AV) (t : PT AV) (σ : AHeap) : CR := bif pn then .ok (.pan v) t [] σ else .err 69
noncomputable def oneX (P : Program) (G : Cx) (ih : IhC) (pn : Bool) (ops : Array Oper) (n : Nat) (o : Oper) (t : PT AV) (σ : AHeap) (k : PT AV → AHeap → CR) : CR :=
 match wantedA ops t o with
 | some true => match effX P G ih (opX P G (evalT G t) σ o.op) with
  | .ret v σ' => match putT t n o.dst v with | some t' => k t' σ' | none => .err 80
  | .pan v σ' => panX pn v t σ'
  | .err e => .err e
 | some false => match putT t n o.dst unit with | some t' => k t' σ | none => .err 84
 | none => .err 85

noncomputable def opsX (P : Program) (G : Cx) (ih : IhC) (ops : Array Oper) (n : Nat) (d : List DE) (l : List Oper) : PT AV → AHeap → CR :=
 List.rec (motive := fun _ => PT AV → AHeap → CR) (fun t σ => .ok .normal t d σ)
  (fun o _ k t σ => oneX P G ih true ops n o t σ k) l

/-! A region that draws its order. -/
/-- Is j among what i waits for, through others? Bits. -/
def anc (A : Array Nat) (i j : Nat) : Bool := (A.getD i 0).testBit j
/-- Does operation i wait for j? -/
def waits (ops : Array Oper) (i j : Nat) : Bool := ((ops[i]?).map fun o => o.after.any fun e => Region.binds .any e && e.on == j).getD false

def heavyK : Kind → Bool
 | .heavy => true
 | _ => false
def looksK : Kind → Bool
 | .read | .alloc => true
 | _ => false
noncomputable def isHeavy (P : Program) (ops : Array Oper) (i : Nat) : Bool := match (ops[i]?).map fun o => kindOf P o.op with | some k => heavyK k | none => false
/-- Does it look at memory, or lay a block? -/
noncomputable def looksMem (P : Program) (ops : Array Oper) (i : Nat) : Bool := match (ops[i]?).map fun o => kindOf P o.op with | some k => looksK k | none => false

/-- The slots that an operation looks at. -/
def slotsOf (ops : Array Oper) (o : Oper) : List Nat :=
 (o.op.operands.toList.filterMap fun | .tmp k => some k | _ => none) ++ (match o.guard with | some (j, _) => ((ops[j]?).bind (·.dst)).toList | none => [])
def dstOf (ops : Array Oper) (i : Nat) : Option Nat := (ops[i]?).bind (·.dst)

/-! Sets of numbers, as bits. -/
def bit (i : Nat) : Nat := Nat.shiftLeft 1 i
def hasB (m i : Nat) : Bool := Nat.beq (Nat.land (Nat.shiftRight m i) 1) 1
def subB (m k : Nat) : Bool := Nat.beq (Nat.land m k) m
noncomputable def maskOf (l : List Nat) : Nat := List.rec (motive := fun _ => Nat) 0 (fun i _ r => Nat.lor (bit i) r) l

/-- An operation: what it waits for, whether it turns or looks at memory, its slot, the slots that it looks at. -/
structure Row where
 w : Nat
 h : Bool
 k : Bool
 d : Option Nat
 dm : Nat
 s : Nat
noncomputable def rowF (P : Program) (ops : Array Oper) (o : Oper) : Row :=
 { w := maskOf (o.after.toList.filterMap fun e => if Region.binds .any e = true then some e.on else none), h := heavyK (kindOf P o.op), k := looksK (kindOf P o.op), d := o.dst, dm := maskOf o.dst.toList, s := maskOf (slotsOf ops o) }
/-- And all that it waits for through others. -/
structure RA where
 r : Row
 a : Nat
noncomputable def orAll (L : List RA) : Nat → Nat :=
 List.rec (motive := fun _ => Nat → Nat) (fun _ => 0) (fun x _ ih w => Nat.lor (Bool.rec (motive := fun _ => Nat) 0 x.a (Nat.beq (Nat.land w 1) 1)) (ih (Nat.shiftRight w 1))) L
noncomputable def rasGo (rows : List Row) : List RA → List RA :=
 List.rec (motive := fun _ => List RA → List RA) (fun L => L) (fun r _ ih L => ih (appN L [⟨r, Nat.lor r.w (orAll L r.w)⟩])) rows
noncomputable def rasOf (P : Program) (ops : Array Oper) : List RA := rasGo (mapN (rowF P ops) ops.toList) []

noncomputable def allI {α : Type} (f : Nat → α → Bool) (l : List α) : Nat → Bool := List.rec (motive := fun _ => Nat → Bool) (fun _ => true) (fun x _ ih i => Bool.rec (motive := fun _ => Bool) false (ih (Nat.succ i)) (f i x)) l
noncomputable def pickI {α : Type} (f : Nat → α → Bool) (l : List α) : Nat → Option Nat := List.rec (motive := fun _ => Nat → Option Nat) (fun _ => none) (fun x _ ih i => Bool.rec (motive := fun _ => Option Nat) (ih (Nat.succ i)) (some i) (f i x)) l
noncomputable def keepI {α : Type} (f : Nat → α → Bool) (l : List α) : Nat → List Nat := List.rec (motive := fun _ => Nat → List Nat) (fun _ => []) (fun x _ ih i => Bool.rec (motive := fun _ => List Nat) (ih (Nat.succ i)) (i :: ih (Nat.succ i)) (f i x)) l

/-- What is asked of the edges, the slots and the operations. -/
noncomputable def pairF (i : Nat) (x : RA) (j : Nat) (y : RA) : Bool :=
 Option.rec (motive := fun _ => Bool) true (fun k => bif (bif hasB x.r.dm k then Nat.beq j i else true) then (bif hasB x.r.s k then (bif hasB x.a j then true else (bif x.r.k then false else (bif Nat.beq j i then true else hasB y.a i))) else true) else false) y.r.d
/-- The same, quickly where the two have nothing to do with each other. -/
noncomputable def pairQ (i : Nat) (x : RA) (j : Nat) (y : RA) : Bool := Bool.rec (motive := fun _ => Bool) (pairF i x j y) true (Nat.beq (Nat.land (Nat.lor x.r.dm x.r.s) y.r.dm) 0)
noncomputable def shapeF (L : List RA) (n : Nat) : Bool :=
 allI (fun i x => bif Nat.blt x.r.w (bit n) then (bif (bif x.r.k then x.r.d.isSome else true) then (bif subB x.a (Nat.lor x.r.w (orAll L x.r.w)) then allI (pairQ i x) L 0 else false) else false) else false) L 0

/-- An order: first what leaves memory alone; and what is to be looked at again behind an operation that turns memory. -/
noncomputable def planF (L : List RA) (fuel : Nat) : Nat → List (Nat × List Nat) :=
 Nat.rec (motive := fun _ => Nat → List (Nat × List Nat)) (fun _ => [])
  (fun _ ih D => Option.rec (motive := fun _ => List (Nat × List Nat))
   (Option.rec (motive := fun _ => List (Nat × List Nat)) [] (fun i => (i, Option.rec (motive := fun _ => List Nat) [] (fun x => keepI (fun j y => bif hasB D j then (bif y.r.k then (bif hasB x.a j then false else true) else false) else false) L 0) (nth L i)) :: ih (Nat.lor D (bit i)))
    (pickI (fun i x => Bool.rec (motive := fun _ => Bool) (subB x.r.w D) false (hasB D i)) L 0))
   (fun i => (i, []) :: ih (Nat.lor D (bit i))) (pickI (fun i x => Bool.rec (motive := fun _ => Bool) (Bool.rec (motive := fun _ => Bool) (subB x.r.w D) false x.r.h) false (hasB D i)) L 0)) fuel
noncomputable def headF (L : List RA) (i : Nat) (rc : List Nat) (D : Nat) (x : RA) : Bool :=
 bif hasB D i then false else (bif subB x.r.w D then (bif x.r.h then allI (fun j y => bif hasB D j then (bif hasB x.a j then true else (bif y.r.k then hasB (maskOf rc) j else true)) else (bif Nat.beq j i then true else (bif subB y.r.w D then false else true))) L 0 else true) else false)
/-- Is the order one that the others come to? -/
noncomputable def checkF (L : List RA) (n : Nat) (p : List (Nat × List Nat)) : Nat → Bool :=
 List.rec (motive := fun _ => Nat → Bool) (fun D => Nat.beq D (Nat.sub (bit n) 1))
  (fun p _ ih D => Option.rec (motive := fun _ => Bool) false (fun x => bif headF L p.1 p.2 D x then ih (Nat.lor D (bit p.1)) else false) (nth L p.1)) p
noncomputable def plan (P : Program) (ops : Array Oper) : List (Nat × List Nat) := planF (rasOf P ops) ops.size 0
noncomputable def fastOK (P : Program) (ops : Array Oper) : Bool := bif shapeF (rasOf P ops) ops.size then checkF (rasOf P ops) ops.size (plan P ops) 0 else false

/-- Does the operation still come to what it came to? -/
noncomputable def stillX (P : Program) (G : Cx) (ops : Array Oper) (t : PT AV) (σ : AHeap) (i : Nat) : Bool :=
 match ops[i]? with
 | some o => match wantedA ops t o with
  | some true => match o.dst with
   | some k => match t.get (posOf k) with
    | some v => match kindOf P o.op with
     | .read => match readA P (evalT G t) σ o.op with | some u => beqA u v | none => false
     | .alloc => match allocA P (evalT G t) o.op, v with
      | some (.row cs e false, .ptr), .ptr b 0 => match σ.m.get b with | some (.row cs' e' false) => Nat.beq e e' && beqA.beqL cs cs' | _ => false
      | some (.row cs e false, .slice n c), .slice b 0 n' (.known c') => match σ.m.get b with | some (.row cs' e' false) => Nat.beq e e' && beqA.beqL cs cs' && Nat.beq n n' && Nat.beq c c' | _ => false
      | _, _ => false
     | _ => false
    | none => false
   | none => false
  | some false => true
  | none => false
 | none => false
noncomputable def stillAll (P : Program) (G : Cx) (ops : Array Oper) (t : PT AV) (σ : AHeap) (l : List Nat) : Bool :=
 List.rec (motive := fun _ => Bool) true (fun i _ r => bif stillX P G ops t σ i then r else false) l

noncomputable def planX (P : Program) (G : Cx) (ih : IhC) (ops : Array Oper) (n : Nat) (d : List DE) (l : List (Nat × List Nat)) : PT AV → AHeap → CR :=
 List.rec (motive := fun _ => PT AV → AHeap → CR) (fun t σ => .ok .normal t d σ)
  (fun p _ k t σ => match ops[p.1]? with
   | some o => oneX P G ih false ops n o t σ (fun t' σ' => bif stillAll P G ops t' σ' p.2 then k t' σ' else .err 86)
   | none => .err 87) l

/-- The region's operations in the plan's order, where the plan is good. -/
noncomputable def drawX (P : Program) (G : Cx) (ih : IhC) (ops : Array Oper) (n : Nat) (d : List DE) (t : PT AV) (σ : AHeap) : CR :=
 bif fastOK P ops then planX P G ih ops n d (plan P ops) t σ else .err 88

noncomputable def condX (c : Option AV) (x y : CR) : CR :=
 match c with
 | some (.bool true) => x
 | some (.bool false) => y
 | _ => .err 90
noncomputable def seqX (r : CR) (k : PT AV → List DE → AHeap → CR) : CR :=
 match r with
 | .ok .normal t d σ => k t d σ
 | r => r
noncomputable def blockX (id : Nat) (r : CR) : CR :=
 match r with
 | .ok (.exit j) t d σ => bif Nat.beq j id then .ok .normal t d σ else .ok (.exit j) t d σ
 | r => r

/-- A scope of labels that nobody jumps to. -/
noncomputable def scopeX (r : CR) : CR :=
 match r with
 | .ok (.goto _) _ _ _ => .err 98
 | r => r

/-- The block for a loop's deferred calls, and its mark. -/
noncomputable def marksX (ro : Option Pos) (d : List DE) (σ : AHeap) : Option (Pos × AHeap × List DE) :=
 match ro with
 | none => some (σ.next, σ.alloc .mark, DE.mark σ.next :: d)
 | some l => match σ.m.get l with
  | some (.loop _ _ _ _ _ _ _ df) => some (df, σ, d)
  | _ => none

/-- Behind the call of a range over a function. -/
noncomputable def afterX (ih : IhC) (l : Pos) (t : PT AV) (n : Nat) (d : List DE) (ro : Option Pos) (σ : AHeap) : CR :=
 match σ.m.get l with
 | some (.loop st p tmps n' ps as bd df) =>
  match st with
  | .busy => .err 91
  | _ => match p with
   | none => .ok .normal t d (σ.setObj l (.loop .exhausted none tmps n' ps as bd df))
   | some c => ih c t n d ro (σ.setObj l (.loop .exhausted (some c) tmps n' ps as bd df))
 | _ => .err 92

/-- A range over a function. -/
noncomputable def rangeX (P : Program) (G : Cx) (ih : IhC) (g : Operand) (ps : Array Tmp) (assign body : Code) (t : PT AV) (n : Nat) (d : List DE) (ro : Option Pos) (σ : AHeap) : CR :=
 match marksX ro d σ with
 | some (df, σ₁, d₁) =>
  match evalT G t g with
  | some (.func f fi ca) => bif isGo P f then
    match callX P G ih f (appN fi (.yield σ₁.next :: ca)) (σ₁.alloc (.loop .ready none t n ps.toList assign body df)) with
    | .ret _ σ₃ => afterX ih σ₁.next t n d₁ ro σ₃
    | .pan _ _ => .err 89
    | .err e => .err e
   else .err 93
  | _ => .err 94
 | none => .err 95

/-- A region that defers. -/
def isDef (o : Oper) : Bool :=
 match o.op with
 | .defer _ => true
 | _ => false
def hasDef (ops : List Oper) : Bool := ops.any isDef
noncomputable def deferA (P : Program) (G : Cx) (t : PT AV) (o : Op) : Option DE :=
 match o with
 | .defer c => match c.callee with
  | .value f => match evalT G t f, evs (evalT G t) c.args.toList with
   | some (.func g fi ca), some args => some (.call g (appN fi args) ca)
   | _, _ => none
  | _ => none
 | _ => none
noncomputable def oneD (P : Program) (G : Cx) (ops : Array Oper) (n : Nat) (o : Oper) (d : List DE) (t : PT AV) (σ : AHeap) (k : List DE → PT AV → AHeap → CR) : CR :=
 match wantedA ops t o with
 | some true => bif isDef o then (match deferA P G t o.op with
   | some e => match putT t n o.dst unit with | some t' => k (e :: d) t' σ | none => .err 80
   | none => .err 97) else
  match opX P G (evalT G t) σ o.op with
  | .val v σ' => (match putT t n o.dst v with | some t' => k d t' σ' | none => .err 80)
  | .skip σ' => (match putT t n o.dst unit with | some t' => k d t' σ' | none => .err 80)
  | .err e => .err e
  | _ => .err 204
 | some false => match putT t n o.dst unit with | some t' => k d t' σ | none => .err 84
 | none => .err 85
noncomputable def opsD (P : Program) (G : Cx) (ops : Array Oper) (n : Nat) (l : List Oper) : List DE → PT AV → AHeap → CR :=
 List.rec (motive := fun _ => List DE → PT AV → AHeap → CR) (fun d t σ => .ok .normal t d σ)
  (fun o _ k d t σ => oneD P G ops n o d t σ k) l
noncomputable def defX (P : Program) (G : Cx) (ops : Array Oper) (n : Nat) (ro : Option Pos) (d : List DE) (t : PT AV) (σ : AHeap) : CR :=
 match ro with
 | none => opsD P G ops n ops.toList d t σ
 | some _ => .err 96
/-- What a region that panics leaves undone. -/
noncomputable def fixD (d : List DE) (r : CR) : CR :=
 match r with
 | .ok (.pan v) t _ σ => .ok (.pan v) t d σ
 | r => r

noncomputable def stepX (P : Program) (G : Cx) (ih : IhC) (c : Code) (t : PT AV) (n : Nat) (d : List DE) (ro : Option Pos) (σ : AHeap) : CR :=
 match c with
 | .skip | .label _ => .ok .normal t d σ
 | .region _ ops draw => bif draw then drawX P G ih ops n d t σ else bif hasDef ops.toList then defX P G ops n ro d t σ else fixD d (opsX P G ih ops n d ops.toList t σ)
 | .seq a b => seqX (ih a t n d ro σ) (fun t d σ => ih b t n d ro σ)
 | .cond c a b => condX (evalT G t c) (ih a t n d ro σ) (ih b t n d ro σ)
 | .block id b => blockX id (ih b t n d ro σ)
 | .scope b => scopeX (ih b t n d ro σ)
 | .loop b => seqX (ih b t n d ro σ) (fun t d σ => ih (.loop b) t n d ro σ)
 | .exit id => .ok (.exit id) t d σ
 | .ret => .ok .ret t d σ
 | .rangeFunc g ps assign body => rangeX P G ih g ps assign body t n d ro σ
 | _ => .err 99

noncomputable def runX (P : Program) (G : Cx) (fuel : Nat) : IhC := Nat.rec (motive := fun _ => IhC) (fun _ _ _ _ _ _ => .err 100) (fun _ ih => stepX P G ih) fuel

/-- A call, from a heap without blocks of its own. -/
noncomputable def evalCall (P : Program) (G : Cx) (fuel : Nat) (f : Nat) (args : List AV) (σ : AHeap) : KR := callX P G (runX P G fuel) f args σ

end Go.Ev

/- What activations stand for; results. -/
namespace Go.Ev
variable [Env]

def fenc : Option Nat → Fence
 | none => Fence.wide
 | some l => Fence.wide.inRound l
theorem fenc_fn (rl : Option Nat) (f : FuncId) : (fenc rl).fn f := by cases rl <;> trivial
theorem fenc_depth (rl : Option Nat) : (fenc rl).depth = none := by cases rl <;> rfl
theorem fenc_round (rl : Option Nat) : (fenc rl).round = rl := by cases rl <;> rfl
theorem fenc_deep (rl : Option Nat) (m : Nat) : (fenc rl).depth.isSome = true → 1 ≤ m := by rw [fenc_depth]; intro h; cases h
theorem fenc_calls {m : Nat} {P : Program} {f : FuncId} {args : Array Value} {w : World} {R : Ending → World → Prop} (rl : Option Nat) (h : CallsIn Fence.wide m P f args w R) : CallsIn (fenc rl) m P f args w R := by
 cases rl with
 | none => exact h
 | some l => exact h.inRound l
theorem fenc_in (rl : Option Nat) (l : Nat) : (fenc rl).inRound l = fenc (some l) := by cases rl <;> rfl

def DR (ρ : Ren) : List DE → List Deferred → Prop
 | [], ds => ds = []
 | .mark b :: d, ds => ∃ l r, ρ b = some l ∧ ds = { target := .collected l.blk, args := #[] } :: r ∧ DR ρ d r
 | .call f args ca :: d, ds => ∃ (xs cs : Array Value) (r : List Deferred), ds = { target := .fn (.func f) cs, args := xs } :: r ∧ VRs ρ args xs.toList ∧ VRs ρ ca cs.toList ∧ DR ρ d r
theorem DR.mono {ρ ρ' : Ren} (h : ρ.le ρ') : ∀ {d : List DE} {ds : List Deferred}, DR ρ d ds → DR ρ' d ds
 | [], ds, hd => hd
 | .mark b :: d, ds, hd => let ⟨l, r, h1, h2, h3⟩ := hd; ⟨l, r, h _ _ h1, h2, DR.mono h h3⟩
 | .call f args ca :: d, ds, hd => let ⟨xs, cs, r, h1, h2, h3, h4⟩ := hd; ⟨xs, cs, r, h1, VRs.mono h _ _ h2, VRs.mono h _ _ h3, DR.mono h h4⟩

def exOf : Ex → Exit
 | .normal => .normal
 | .exit i => .exit i
 | .goto i => .goto i
 | .ret => .ret
 | .pan _ => .normal
/-- A way out stands for the machine's. -/
def ExR (ρ : Ren) : Ex → Exit → Prop
 | .pan v, E => ∃ x, E = .panic [{ v := x, recovered := false }] ∧ VR ρ v x
 | .normal, E => E = .normal
 | .exit i, E => E = .exit i
 | .goto i, E => E = .goto i
 | .ret, E => E = .ret
def Qx (Q : Exit → Act → World → Prop) (ρ : Ren) (e : Ex) (a : Act) (w : World) : Prop := ∀ E, ExR ρ e E → Q E a w
/-- A call's end stands for the machine's. -/
def EndR (ρ : Ren) : KR → Ending → Prop
 | .ret v _, e => ∃ x, e = .returned x ∧ VR ρ v x
 | .pan v _, e => ∃ x, e = .panicked [{ v := x, recovered := false }] ∧ VR ρ v x
 | .err _, _ => False
def KR.heap : KR → AHeap
 | .ret _ σ => σ
 | .pan _ σ => σ
 | .err _ => ⟨0, .leaf⟩

def RO (ρ : Ren) : Option Pos → Option Nat → Prop
 | none, none => True
 | some b, some l => ∃ loc, ρ b = some loc ∧ loc.blk = l
 | _, _ => False
theorem RO.mono {ρ ρ' : Ren} (h : ρ.le ρ') : ∀ {ro : Option Pos} {rl : Option Nat}, RO ρ ro rl → RO ρ' ro rl
 | none, none, _ => trivial
 | some _, some _, ⟨loc, h1, h2⟩ => ⟨loc, h _ _ h1, h2⟩

def GR (ρ : Ren) (G : Cx) : Prop := ∀ g, g < G.gl → ∃ c, ρ (posOf g) = some ⟨g, 0, c⟩
theorem GR.mono {ρ ρ' : Ren} {G : Cx} (h : ρ.le ρ') (hg : GR ρ G) : GR ρ' G := fun g hlt => let ⟨c, hc⟩ := hg g hlt; ⟨c, h _ _ hc⟩

/-- What lay in memory lies as it lay; the outside is as it was. -/
structure Keeps (w w' : World) : Prop where
 os : w'.os = w.os
 out : w'.output = w.output
 tape : w'.tape = w.tape
 size : w.heap.size ≤ w'.heap.size
 same : ∀ r : Nat, r < w.heap.size → w'.heap[r]? = w.heap[r]?

/-- A package variable's block: its cells. -/
def LaidIs (w : World) (x : Nat × List AV) : Prop := ∃ c e fr, w.heap[x.1]? = some (.cells c e fr) ∧ x.2.length ≤ c.size ∧ ∀ (i : Nat) (v : AV), x.2[i]? = some v → ∃ y, c[i]? = some y ∧ VR (fun _ => none) v y
/-- A call that is known: in whatever world that has these variables it returns that value, and what lay in memory lies as it lay. -/
def Known (P : Program) (gl : Nat) (laid : List (Nat × List AV)) (f : Nat) (args : List AV) (v : AV) : Prop :=
 ∀ (w : World) (xs : Array Value), gl ≤ w.heap.size → OldW w → (∀ x ∈ laid, LaidIs w x) → VRs (fun _ => none) args xs.toList → Calls P f xs w fun e w' => ∃ x, e = .returned x ∧ VR (fun _ => none) v x ∧ Keeps w w'

/-- What a call that was reckoned apart comes to, with all that it touches. -/
def Ans (P : Program) (gl : Nat) (laid : List (Nat × List AV)) (e : ME) : Prop :=
 wfM gl laid e = true ∧ ∀ (E : Nat → TypeId) (ρ : Ren) (w : World) (xs : Array Value) (rl : Option Nat) (m : Nat) (R : Ending → World → Prop), Inv ρ (baseM laid E e) w → (∀ g, g < gl → ∃ c, ρ (posOf g) = some ⟨g, 0, c⟩) → VRs ρ e.args xs.toList →
  (∀ (ρ' : Ren) (σr : AHeap) (w' : World) (x : Value), (∀ y ∈ e.l', σr.m.get y.1 = some y.2) → σr.next = e.next' → Inv ρ' σr w' → Stp ρ (baseM laid E e) w ρ' σr w' → VR ρ' e.v x → R (.returned x) w') →
  CallsIn (fenc rl) m P e.f xs w R

structure CxOK (P : Program) (G : Cx) : Prop where
 ov : ∀ g, G.ov g = true → OvFact P g
 tbl : ∀ f args v, G.tbl f args = some v → Known P G.gl G.laid f args v
 mem : ∀ e ∈ G.mem, Ans P G.gl G.laid e
 ktb : ∀ f args σ v, G.ktb f args σ = some v → ∀ (ρ : Ren) (w : World) (xs : Array Value), Inv ρ σ w → VRs ρ args xs.toList → Calls P f xs w fun e w' => ∃ x ρ', e = .returned x ∧ VR ρ' v x ∧ Inv ρ' σ w' ∧ Stp ρ σ w ρ' σ w'

/-- What the code evaluator's answers are worth. -/
structure Sound (P : Program) (G : Cx) (ih : IhC) : Prop where
 cx : CxOK P G
 run : ∀ (c : Code) (t : PT AV) (n : Nat) (d : List DE) (ro : Option Pos) (σ : AHeap) (e : Ex) (t' : PT AV) (d' : List DE) (σ' : AHeap), ih c t n d ro σ = .ok e t' d' σ' →
  ∀ (ρ : Ren) (w : World) (a : Act) (rl : Option Nat) (m : Nat) (Q : Exit → Act → World → Prop), Inv ρ σ w → GR ρ G → TR ρ t n a.tmps → DR ρ d a.defers → RO ρ ro rl →
   (∀ (ρ' : Ren) (w' : World) (a' : Act), Inv ρ' σ' w' → Stp ρ σ w ρ' σ' w' → TR ρ' t' n a'.tmps → DR ρ' d' a'.defers → Qx Q ρ' e a' w') → c.wpIn (fenc rl) m P Q a w

section
variable {P : Program} {G : Cx} {ρ : Ren} {σ : AHeap} {w : World}

theorem TR.set {t : PT AV} {n k : Nat} {tmps : Array Value} {v : AV} {x : Value} (h : TR ρ t n tmps) (hk : k < n) (hv : VR ρ v x) : TR ρ (t.put (some v) (posOf k)) n (tmps.setIfInBounds k x) := by
 refine ⟨by simpa using h.1, fun j u hu => ?_⟩
 by_cases e : j = k
 ·subst e
  rw [PT.get_put_same] at hu; cases hu
  refine ⟨hk, ?_⟩
  have : j < tmps.size := by rw [h.1]; exact hk
  simpa [Array.getD_eq_getD_getElem?, this] using hv
 ·rw [PT.get_put_other _ _ _ _ (fun h' => e (posOf_inj h'))] at hu
  obtain ⟨h1, h2⟩ := h.2 j u hu
  refine ⟨h1, ?_⟩
  have : (tmps.setIfInBounds k x).getD j undef = tmps.getD j undef := by
   simp only [Array.getD_eq_getD_getElem?, Array.getElem?_setIfInBounds]
   rw [if_neg (fun h' => e h'.symm)]
  rw [this]; exact h2
theorem putT_some {t t' : PT AV} {n k : Nat} {v : AV} (h : putT t n (some k) v = some t') : k < n ∧ t' = t.put (some v) (posOf k) := by
 unfold putT at h
 simp only [ite_cond] at h
 split at h
 ·rename_i hk
  cases h
  exact ⟨Nat.le_of_ble_eq_true hk, rfl⟩
 ·cases h
theorem TR.put {t t' : PT AV} {n : Nat} {a : Act} {dst : Option Tmp} {v : AV} {x : Value} (h : TR ρ t n a.tmps) (hp : putT t n dst v = some t') (hv : VR ρ v x) : TR ρ t' n (a.put dst x).tmps := by
 cases dst with
 | none => cases hp; exact h
 | some k =>
  obtain ⟨hk, rfl⟩ := putT_some hp
  exact h.set hk hv
theorem put_defers (a : Act) (dst : Option Tmp) (x : Value) : (a.put dst x).defers = a.defers := by cases dst <;> rfl

theorem VR_unit : VR ρ unit undef := by simp only [unit, VR]; exact ⟨_, rfl, VRs.nil⟩

theorem eval_sound {t : PT AV} {n : Nat} {a : Act} {x : Operand} {v : AV} (hg : GR ρ G) (ht : TR ρ t n a.tmps) (h : evalT G t x = some v) : VR ρ v (a.eval x) := by
 cases x with
 | tmp k => exact (ht.2 k v h).2
 | const c => exact ofVal_sound h
 | global g =>
  simp only [evalT, ite_cond] at h
  split at h
  ·rename_i hlt
   cases h
   obtain ⟨c, hc⟩ := hg g (Nat.le_of_ble_eq_true hlt)
   simp only [VR]
   exact ⟨_, hc, by simp [Act.eval]⟩
  ·cases h
 | func f =>
  cases h
  simp only [VR]
  exact ⟨_, _, rfl, VRs.nil, VRs.nil⟩

theorem ER_of {t : PT AV} {n : Nat} {a : Act} (op : Op) (hg : GR ρ G) (ht : TR ρ t n a.tmps) : ER ρ (evalT G t) a.eval op := fun _ _ _ hv => eval_sound hg ht hv

/-- What a guard looks at. -/
theorem wanted_at {ops : Array Oper} {t : PT AV} {o : Oper} {b : Bool} {tmps : Array Value} (h : wantedA ops t o = some b)
  (hs : ∀ j want k, o.guard = some (j, want) → (ops[j]?).bind (·.dst) = some k → ∀ v, t.get (posOf k) = some v → k < tmps.size ∧ VR ρ v (tmps.getD k undef)) :
  Region.wanted o (yielded ops tmps) = b := by
 unfold wantedA at h
 unfold Region.wanted
 cases hg : o.guard with
 | none => rw [hg] at h; cases h; rfl
 | some jw =>
  obtain ⟨j, want⟩ := jw
  rw [hg] at h
  dsimp only at h ⊢
  cases hk : (ops[j]?).bind (·.dst) with
  | none =>
   rw [hk] at h; cases h
   simp [yielded, hk]
  | some k =>
   rw [hk] at h
   dsimp only at h
   cases hv : t.get (posOf k) with
   | none => rw [hv] at h; cases h
   | some v =>
    rw [hv] at h
    obtain ⟨hlt, hr⟩ := hs j want k hg hk v hv
    have hget : tmps[k]? = some (tmps.getD k undef) := by
     rw [Array.getD_eq_getD_getElem?, Array.getElem?_eq_getElem hlt]; rfl
    generalize tmps.getD k undef = x at hr hget
    cases v with
    | bool c =>
     simp only [VR] at hr
     subst hr
     simp only [yielded, hk, Option.bind_some, hget]
     cases h
     cases c <;> cases want <;> rfl
    | tuple cs =>
     simp only [VR] at hr
     obtain ⟨y, rfl, _⟩ := hr
     cases h
     simp [yielded, hk, hget]
    | _ => cases h
theorem wanted_sound {ops : Array Oper} {t : PT AV} {o : Oper} {b : Bool} {n : Nat} {tmps : Array Value} (h : wantedA ops t o = some b) (ht : TR ρ t n tmps) : Region.wanted o (yielded ops tmps) = b :=
 wanted_at h fun _ _ k _ _ v hv => ⟨by rw [ht.1]; exact (ht.2 k v hv).1, (ht.2 k v hv).2⟩

theorem putAll_sound {n : Nat} : ∀ (ks : List Nat) (vs : List AV) (t t' : PT AV) (tmps : Array Value) (xs : List Value), putAll n ks vs t = some t' → TR ρ t n tmps → VRs ρ vs xs →
  ks.length = xs.length ∧ TR ρ t' n ((ks.zip xs).foldl (fun tmps (t, a) => tmps.setIfInBounds t a) tmps)
 | [], [], t, t', tmps, xs, h, ht, hv => by
  rw [hv.nil_inv]
  have h' : some t = some t' := h
  cases h'
  exact ⟨rfl, ht⟩
 | [], _ :: _, _, _, _, _, h, _, _ => by have h' : (none : Option (PT AV)) = some _ := h; cases h'
 | _ :: _, [], _, _, _, _, h, _, _ => by have h' : (none : Option (PT AV)) = some _ := h; cases h'
 | k :: ks, v :: vs, t, t', tmps, xs, h, ht, hv => by
  obtain ⟨x, r, rfl, h1, h2⟩ := hv.cons_inv
  have h' : (match putT t n (some k) v with | some t' => putAll n ks vs t' | none => none) = some t' := h
  cases hp : putT t n (some k) v with
  | none => rw [hp] at h'; cases h'
  | some t₁ =>
   rw [hp] at h'
   obtain ⟨hk, rfl⟩ := putT_some hp
   obtain ⟨g1, g2⟩ := putAll_sound ks vs _ t' (tmps.setIfInBounds k x) r h' (ht.set hk h1) h2
   exact ⟨by simp [g1], g2⟩

/-- An activation's start. -/
theorem args_sound {n : Nat} {args : List AV} {xs : Array Value} {t : PT AV} (h : argsT n args = some t) (hv : VRs ρ args xs.toList) : TR ρ t n (xs ++ Array.replicate (n - xs.size) undef) := by
 have key : ∀ (args : List AV) (ys : List Value) (k : Nat) (t t' : PT AV), (List.rec (motive := fun _ => Nat → PT AV → Option (PT AV)) (fun _ t => some t) (fun v _ ih k t => match putT t n (some k) v with | some t' => ih (Nat.succ k) t' | none => none) args : Nat → PT AV → Option (PT AV)) k t = some t' →
   VRs ρ args ys → (∀ j v, t.get (posOf j) = some v → j < k ∧ j < n) →
   (∀ j v, t'.get (posOf j) = some v → j < n ∧ ((j < k ∧ t.get (posOf j) = some v) ∨ ∃ y, k ≤ j ∧ ys[j - k]? = some y ∧ VR ρ v y)) ∧ (args = [] ∨ k + args.length ≤ n) := by
  intro args
  induction args with
  | nil =>
   intro ys k t t' h hv ht
   have h' : some t = some t' := h
   cases h'
   exact ⟨fun j v hj => ⟨(ht j v hj).2, .inl ⟨(ht j v hj).1, hj⟩⟩, .inl rfl⟩
  | cons v args ih =>
   intro ys k t t' h hv ht
   obtain ⟨x, r, rfl, h1, h2⟩ := hv.cons_inv
   dsimp only at h
   cases hp : putT t n (some k) v with
   | none => rw [hp] at h; cases h
   | some t₁ =>
    rw [hp] at h
    obtain ⟨hk, rfl⟩ := putT_some hp
    obtain ⟨g1, g2⟩ := ih r (k + 1) _ t' h h2 (fun j u hj => by
     by_cases e : j = k
     ·subst e; exact ⟨by omega, hk⟩
     ·rw [PT.get_put_other _ _ _ _ (fun h' => e (posOf_inj h'))] at hj
      have := ht j u hj
      exact ⟨by omega, this.2⟩)
    refine ⟨fun j u hj => ?_, .inr ?_⟩
    ·obtain ⟨q1, q2⟩ := g1 j u hj
     refine ⟨q1, ?_⟩
     rcases q2 with ⟨hlt, hg⟩ | ⟨y, hle, hy, hr⟩
     ·by_cases e : j = k
      ·subst e
       rw [PT.get_put_same] at hg; cases hg
       exact .inr ⟨x, Nat.le_refl _, by simp, h1⟩
      ·rw [PT.get_put_other _ _ _ _ (fun h' => e (posOf_inj h'))] at hg
       exact .inl ⟨by omega, hg⟩
     ·refine .inr ⟨y, by omega, ?_, hr⟩
      have : j - k = (j - (k + 1)) + 1 := by omega
      rw [this]; simpa using hy
    ·rcases g2 with rfl | g2
     ·simp; omega
     ·simp; omega
 obtain ⟨g1, g2⟩ := key args xs.toList 0 .leaf t h hv (fun j v hj => by rw [PT.get_leaf] at hj; cases hj)
 have hlen := hv.length
 have hle : xs.size ≤ n := by
  rcases g2 with rfl | g2
  ·simp at hlen; rw [hlen]; simp
  ·simp at hlen; omega
 refine ⟨by simp; omega, fun j v hj => ?_⟩
 obtain ⟨q1, q2⟩ := g1 j v hj
 refine ⟨q1, ?_⟩
 rcases q2 with ⟨hlt, _⟩ | ⟨y, _, hy, hr⟩
 ·omega
 ·rw [Nat.sub_zero] at hy
  have hjx : j < xs.size := by simpa using (List.getElem?_eq_some_iff.1 hy).1
  have : (xs ++ Array.replicate (n - xs.size) undef).getD j undef = y := by
   rw [Array.getD_eq_getD_getElem?, Array.getElem?_append_left hjx, ← Array.getElem?_toList, hy]; rfl
  rw [this]; exact hr

/-! A function's results. -/
def resF (tmps : Array Value) : ResultVar → Sem Value
 | .tmp t => pure (tmps.getD t undef)
 | .cell a t => do loadVar t (← asAddr (tmps.getD a undef))
theorem results_eq (fn : Func) (tmps : Array Value) : results fn tmps = (fn.results.mapM (resF tmps) >>= fun vs => pure (if h : vs.size = 1 then vs[0] else .tuple vs)) := rfl
theorem result_sound (hi : Inv ρ σ w) {t : PT AV} {n : Nat} {tmps : Array Value} (ht : TR ρ t n tmps) {r : ResultVar} {v : AV} (h : resultA P t σ r = some v) :
  ∃ x, (resF tmps r).run P w = .ok x w ∧ VR ρ v x := by
 cases r with
 | tmp k => exact ⟨_, rfl, (ht.2 k v h).2⟩
 | cell k ty =>
  simp only [resultA] at h
  cases hk : t.get (posOf k) with
  | none => rw [hk] at h; cases h
  | some u =>
   rw [hk] at h
   have hvx := (ht.2 k u hk).2
   cases u with
   | ptr b off =>
    dsimp only at h
    cases hg : σ.m.get b with
    | none => rw [hg] at h; cases h
    | some ob =>
     rw [hg] at h
     cases ob with
     | row cells e ro =>
      simp only [VR] at hvx
      obtain ⟨l, hl, hfx⟩ := hvx
      obtain ⟨y, hy, hr⟩ := loadVar_sound (P := P) hi hg hl h
      refine ⟨y, ?_, hr⟩
      simp [resF, hfx, asAddr, hy]
     | _ => cases h
   | _ => cases h

theorem resultsL_sound (hi : Inv ρ σ w) {t : PT AV} {n : Nat} {tmps : Array Value} (ht : TR ρ t n tmps) : ∀ {rs : List ResultVar} {vs : List AV}, allSome (resultA P t σ) rs = some vs →
  ∃ xs : List Value, (rs.mapM (resF tmps) : Sem (List Value)).run P w = .ok xs w ∧ VRs ρ vs xs
 | [], vs, h => by rw [allSome_nil] at h; cases h; exact ⟨[], by simp, VRs.nil⟩
 | r :: rs, vs, h => by
  obtain ⟨y, r', h1, h2, rfl⟩ := allSome_cons h
  obtain ⟨x, hx, hv⟩ := result_sound (P := P) hi ht h1
  obtain ⟨xs, hxs, hvs⟩ := resultsL_sound hi ht h2
  refine ⟨x :: xs, ?_, VRs.cons hv hvs⟩
  simp only [List.mapM_cons, Sem.run_bind, hx, Result.andThen_ok, hxs, Sem.run_pure]

theorem results_sound (hi : Inv ρ σ w) {fn : Func} {t : PT AV} {n : Nat} {tmps : Array Value} (ht : TR ρ t n tmps) {v : AV} (h : resultsA P fn t σ = some v) :
  ∃ x, (results fn tmps).run P w = .ok x w ∧ VR ρ v x := by
 unfold resultsA at h
 cases ha : allSome (resultA P t σ) fn.results.toList with
 | none => rw [ha] at h; cases h
 | some vs =>
  rw [ha] at h
  obtain ⟨xs, hx, hv⟩ := resultsL_sound (P := P) hi ht ha
  have hm : (fn.results.mapM (resF tmps) : Sem (Array Value)).run P w = .ok xs.toArray w := by
   rw [Array.mapM_eq_mapM_toList]
   simp only [Sem.run_map, hx, Result.andThen_ok]
  cases vs with
  | nil =>
   cases h
   have := hv.nil_inv
   subst this
   refine ⟨.tuple #[], by rw [results_eq, Sem.run_bind, hm]; rfl, by simp only [VR]; exact ⟨_, rfl, VRs.nil⟩⟩
  | cons u us =>
   obtain ⟨x, r, rfl, h1, h2⟩ := hv.cons_inv
   cases us with
   | nil =>
    cases h
    have := h2.nil_inv
    subst this
    exact ⟨x, by rw [results_eq, Sem.run_bind, hm]; rfl, h1⟩
   | cons u' us =>
    cases h
    obtain ⟨x', r', rfl, h3, h4⟩ := h2.cons_inv
    refine ⟨.tuple (x :: x' :: r').toArray, by rw [results_eq, Sem.run_bind, hm]; rfl, by simp only [VR]; exact ⟨_, rfl, by simpa using hv⟩⟩
end
end Go.Ev

/- Calls, rounds, operations. -/
namespace Go.Ev
variable [Env]

/-! The same value. -/
theorem beqP_eq {p q : Pos} (h : beqA.beqP p q = true) : p = q := Nat.eq_of_beq_eq_true h
theorem beqC_eq {c d : Cap} (h : beqA.beqC c d = true) : c = d := by
  unfold beqA.beqC at h
  split at h
  · rw [Nat.eq_of_beq_eq_true h]
  · rw [Nat.eq_of_beq_eq_true h]
  · cases h
theorem beq1_eq {x y : AV} (h : beqA.beq1 x y = true) : x = y := by
  unfold beqA.beq1 at h
  split at h
  · rw [cond_beq] at h; rw [eq_of_beq h]
  · rw [Bool.and_eq_true, eqI_eq, decide_eq_true_eq] at h; rw [eqK_eq h.1, h.2]
  · rw [eqS_eq, decide_eq_true_eq] at h; rw [h]
  · rfl
  · rw [Nat.eq_of_beq_eq_true h]
  · rw [Bool.and_eq_true] at h; rw [beqP_eq h.1, Nat.eq_of_beq_eq_true h.2]
  · rfl
  · simp only [Bool.and_eq_true] at h; rw [beqP_eq h.1.1.1, Nat.eq_of_beq_eq_true h.1.1.2, Nat.eq_of_beq_eq_true h.1.2, beqC_eq h.2]
  · rfl
  · rw [beqP_eq h]
  · rfl
  · rfl
  · rw [Nat.eq_of_beq_eq_true h]
  · simp only [Bool.and_eq_true] at h; rw [Nat.eq_of_beq_eq_true h.1.1, beqP_eq h.1.2, Nat.eq_of_beq_eq_true h.2]
  · cases h
theorem beqL_eq : ∀ {xs ys : List AV}, beqA.beqL xs ys = true → xs = ys
  | [], [], _ => rfl
  | [], _ :: _, h => by cases h
  | _ :: _, [], h => by cases h
  | x :: xs, y :: ys, h => by
    have h' : (bif beqA.beq1 x y then beqA.beqL xs ys else false) = true := h
    rw [ite_cond] at h'
    split at h'
    · rename_i hb; rw [beq1_eq hb, beqL_eq h']
    · cases h'
theorem beqA_eq {x y : AV} (h : beqA x y = true) : x = y := by
  unfold beqA at h
  split at h
  · rw [beqL_eq h]
  · exact beq1_eq h

theorem beqAs_eq : ∀ {xs ys : List AV}, beqAs xs ys = true → xs = ys
  | [], [], _ => rfl
  | [], _ :: _, h => by cases h
  | _ :: _, [], h => by cases h
  | x :: xs, y :: ys, h => by
    have h' : (bif beqA x y then beqAs xs ys else false) = true := h
    rw [ite_cond] at h'
    split at h'
    · rename_i hb; rw [beqA_eq hb, beqAs_eq h']
    · cases h'
theorem beqV_eq {x y : AV} (h : beqV x y = true) : x = y := by
  unfold beqV at h
  split at h
  · rw [beqAs_eq h]
  · exact beqA_eq h
theorem eqEnts_eq : ∀ {xs ys : List AEnt}, eqEnts xs ys = true → xs = ys
  | [], [], _ => rfl
  | [], _ :: _, h => by cases h
  | _ :: _, [], h => by cases h
  | x :: xs, y :: ys, h => by
    have h' : (bif beqA x.key y.key then (bif beqA x.val y.val then (bif Nat.beq x.born y.born then eqEnts xs ys else false) else false) else false) = true := h
    rw [ite_cond] at h'
    split at h'
    · rename_i h1
      rw [ite_cond] at h'
      split at h'
      · rename_i h2
        rw [ite_cond] at h'
        split at h'
        · rename_i h3
          have e1 := beqA_eq h1
          have e2 := beqA_eq h2
          have e3 := Nat.eq_of_beq_eq_true h3
          rw [eqEnts_eq h']
          cases x; cases y
          simp only at e1 e2 e3
          subst e1; subst e2; subst e3
          rfl
        · cases h'
      · cases h'
    · cases h'
theorem eqObj_eq {x y : AObj} (h : eqObj x y = true) : x = y := by
  unfold eqObj at h
  split at h
  · rw [ite_cond] at h
    split at h
    · rename_i he; rw [Nat.eq_of_beq_eq_true he, beqL_eq h]
    · cases h
  · rw [ite_cond] at h
    split at h
    · rename_i he; rw [Nat.eq_of_beq_eq_true he, beqL_eq h]
    · cases h
  · rw [ite_cond] at h
    split at h
    · rename_i he; rw [Nat.eq_of_beq_eq_true he, eqEnts_eq h]
    · cases h
  · rw [ite_cond] at h
    split at h
    · rename_i he
      rw [eqS_eq, decide_eq_true_eq] at h
      rw [Nat.eq_of_beq_eq_true he, h]
    · cases h
  · rfl
  · rfl
  · cases h
theorem subL_all : ∀ {l : List (Nat × AObj)} {σ : AHeap}, subL l σ = true → ∀ x ∈ l, σ.m.get x.1 = some x.2
  | [], σ, _, x, hx => by cases hx
  | y :: l, σ, h, x, hx => by
    have h' : (match σ.m.get y.1 with | some o => bif eqObj o y.2 then subL l σ else false | none => false) = true := h
    split at h'
    · rename_i o ho
      rw [ite_cond] at h'
      split at h'
      · rename_i he
        rcases List.mem_cons.1 hx with rfl | hx
        · rw [ho, eqObj_eq he]
        · exact subL_all h' x hx
      · cases h'
    · cases h'
theorem putAllM_get : ∀ {l : List (Nat × AObj)} {m : PT AObj} {b : Nat} {o : AObj}, (putAllM l m).get b = some o → (∃ x ∈ l, x.1 = b ∧ x.2 = o) ∨ ((∀ x ∈ l, x.1 ≠ b) ∧ m.get b = some o)
  | [], m, b, o, h => .inr ⟨fun x hx => (by cases hx), h⟩
  | y :: l, m, b, o, h => by
    have h' : ((putAllM l m).put (some y.2) y.1).get b = some o := h
    rw [PT.get_put] at h'
    split at h'
    · rename_i e
      cases h'
      exact .inl ⟨y, List.mem_cons_self, e.symm, rfl⟩
    · rename_i hne
      rcases putAllM_get h' with ⟨x, h1, h2⟩ | ⟨h1, h2⟩
      · exact .inl ⟨x, List.mem_cons_of_mem _ h1, h2⟩
      · refine .inr ⟨fun x hx => ?_, h2⟩
        rcases List.mem_cons.1 hx with rfl | hx
        · exact fun e => hne e.symm
        · exact h1 x hx
theorem dropAll_get : ∀ {l : List (Nat × AObj)} {m : PT AObj} {b : Nat} {o : AObj}, (dropAll l m).get b = some o → (∀ x ∈ l, x.1 ≠ b) ∧ m.get b = some o
  | [], m, b, o, h => ⟨fun x hx => (by cases hx), h⟩
  | y :: l, m, b, o, h => by
    have h' : ((dropAll l m).put none y.1).get b = some o := h
    rw [PT.get_put] at h'
    split at h'
    · cases h'
    · rename_i hne
      obtain ⟨h1, h2⟩ := dropAll_get h'
      refine ⟨fun x hx => ?_, h2⟩
      rcases List.mem_cons.1 hx with rfl | hx
      · exact fun e => hne e.symm
      · exact h1 x hx
theorem laidPT_get (E : Nat → TypeId) {l : List (Nat × List AV)} {b : Nat} {o : AObj} (h : (laidPT l E).get b = some o) : ∃ x ∈ l, x.1 = b ∧ o = .row x.2 (E x.1) true := by
  have key : ∀ (l : List (Nat × List AV)) (m : PT AObj), (l.foldl (fun m x => m.put (some (.row x.2 (E x.1) true)) (posOf x.1)) m).get b = some o → (∃ x ∈ l, x.1 = b ∧ o = .row x.2 (E x.1) true) ∨ m.get b = some o := by
    intro l
    induction l with
    | nil => intro m h; exact .inr h
    | cons x l ih =>
      intro m h
      rcases ih _ h with ⟨y, h1, h2⟩ | h
      · exact .inl ⟨y, List.mem_cons_of_mem _ h1, h2⟩
      · rw [PT.get_put] at h
        split at h
        · rename_i e
          cases h
          exact .inl ⟨x, List.mem_cons_self, e.symm, rfl⟩
        · exact .inr h
  rcases key l _ h with h | h
  · exact h
  · rw [PT.get_leaf] at h; cases h
theorem baseM_get {laid : List (Nat × List AV)} {E : Nat → TypeId} {e : ME} {b : Nat} {o : AObj} (h : (baseM laid E e).m.get b = some o) : (∃ x ∈ e.l, x.1 = b ∧ x.2 = o) ∨ ∃ x ∈ laid, x.1 = b ∧ o = .row x.2 (E x.1) true := by
  rcases putAllM_get h with h | ⟨_, h⟩
  · exact .inl h
  · exact .inr (laidPT_get E h)

section
variable {P : Program} {G : Cx} {ρ : Ren} {σ : AHeap} {w : World}

theorem putObj_eq (w : World) (r : Nat) (o : Obj) : w.putObj r o = { w with heap := w.heap.setIfInBounds r o } := rfl

/-- An object that is no row is put anew. -/
theorem Inv.putObj (hi : Inv ρ σ w) {b : Pos} {l : Loc} {o o' : AObj} {x : Obj} (hb : σ.m.get b = some o) (hl : ρ b = some l) (hro : o.ro = false) (hro' : o'.ro = false) (ho : ObjR ρ l o' x) :
    Inv ρ (σ.setObj b o') (w.putObj l.blk x) ∧ Stp ρ σ w ρ (σ.setObj b o') (w.putObj l.blk x) := by
  have hlt := hi.blk b l hl
  exact hi.change hb hl hro hro' (World.putObj_heap_same hlt) ho (fun r hr => World.putObj_heap_other hr) (by simp) rfl rfl rfl

/-- An operation, whatever its kind. -/
theorem op_sound (hov : ∀ g, G.ov g = true → OvFact P g) {ev : Operand → Option AV} {f : Operand → Value} {o : Oper} {r : HR} (hi : Inv ρ σ w) (hE : ER ρ ev f o.op) (h : opX P G ev σ o.op = r) (hne : ∀ n, r ≠ .err n) : HOut P ρ σ w r ((execOp f o).run P w) := by
  subst h
  unfold opX at hne ⊢
  cases hk : kindOf P o.op with
  | pure =>
    rw [hk] at hne
    dsimp only at hne ⊢
    cases hp : pureA P ev o.op with
    | none => rw [hp] at hne; exact absurd rfl (hne (Nat.add 1000 (opTag o.op)))
    | some v =>
      obtain ⟨x, hx, hv⟩ := pure_sound (P := P) (w := w) hE hp
      rw [hx]
      exact .val hv hi (Stp.refl ρ σ w)
  | read =>
    rw [hk] at hne
    dsimp only at hne ⊢
    cases hp : readA P ev σ o.op with
    | none => rw [hp] at hne; exact absurd rfl (hne (Nat.add 2000 (opTag o.op)))
    | some v =>
      obtain ⟨x, hx, hv⟩ := read_sound (P := P) hi hE hp
      rw [hx]
      exact .val hv hi (Stp.refl ρ σ w)
  | alloc =>
    rw [hk] at hne
    dsimp only at hne ⊢
    cases hp : allocA P ev o.op with
    | none => rw [hp] at hne; exact absurd rfl (hne (Nat.add 3000 (opTag o.op)))
    | some p =>
      obtain ⟨ob, mk⟩ := p
      obtain ⟨x, ob', n, hx, hro, hob, hv⟩ := alloc_sound (P := P) (w := w) hE hp
      obtain ⟨inv, st⟩ := hi.alloc (l := ⟨w.heap.size, 0, n⟩) rfl hob
      rw [hx]
      exact .val (hv _ _ (Ren.with_same _ _ _)) inv st
  | heavy =>
    rw [hk] at hne
    exact heavy_sound hov hi hE rfl hne

theorem op_no_defer {ev : Operand → Option AV} {o : Oper} (hne : ∀ n, opX P G ev σ o.op ≠ .err n) (c : Call) : o.op ≠ .defer c := by
  intro e
  rw [e] at hne
  exact hne 16 rfl


/-! Leaving: deferred calls; what they recover. -/
def MdR (ρ : Ren) : Md → FrameMode → Prop
  | .ret, u => u = .returning
  | .pan v, u => ∃ x, u = .panicking [{ v := x, recovered := false }] ∧ VR ρ v x
  | .rcv v, u => ∃ x, u = .panicking [{ v := x, recovered := true }] ∧ VR ρ v x
theorem MdR.mono {ρ ρ' : Ren} (h : ρ.le ρ') : ∀ {md : Md} {u : FrameMode}, MdR ρ md u → MdR ρ' md u
  | .ret, _, h' => h'
  | .pan _, _, ⟨x, h1, h2⟩ => ⟨x, h1, VR.mono h _ _ h2⟩
  | .rcv _, _, ⟨x, h1, h2⟩ => ⟨x, h1, VR.mono h _ _ h2⟩
theorem MdR.settle {ρ : Ren} : ∀ {md : Md} {u : FrameMode}, MdR ρ md u → MdR ρ (settleM md) (Go.settle u)
  | .ret, u, h => by have h : u = .returning := h; subst h; rfl
  | .pan v, u, ⟨x, h1, h2⟩ => by subst h1; exact ⟨x, rfl, h2⟩
  | .rcv v, u, ⟨x, h1, h2⟩ => by subst h1; rfl
theorem MdR.not_run {ρ : Ren} : ∀ {md : Md} {u : FrameMode}, MdR ρ md u → u ≠ .run
  | .ret, u, h => by have h : u = .returning := h; subst h; simp
  | .pan v, u, ⟨x, h1, h2⟩ => by subst h1; simp
  | .rcv v, u, ⟨x, h1, h2⟩ => by subst h1; simp
/-- What is asked behind a deferred call's code. -/
def SQ (Q : Exit → Act → List Frame → World → Prop) (c₀ : Frame) (rest : List Frame) (ρ : Ren) (σ : AHeap) (w : World) (n : Nat) (e : Ex) (t' : PT AV) (d' : List DE) (md' : Md) (σ' : AHeap) : Prop :=
  ∀ (ρ' : Ren) (w' : World) (a' : Act) (u' : FrameMode) (E : Exit), Inv ρ' σ' w' → Stp ρ σ w ρ' σ' w' → TR ρ' t' n a'.tmps → DR ρ' d' a'.defers → MdR ρ' md' u' → ExR ρ' e E → Q E a' ({ c₀ with mode := u' } :: rest) w'
theorem isRec_inv {o : Oper} (h : isRec o = true) : ∃ c, o.op = .call c ∧ c.callee = .builtin .recover := by
  unfold isRec at h
  split at h
  · rename_i c hc
    split at h
    · rename_i hb; exact ⟨c, hc, hb⟩
    · cases h
  · cases h

theorem opsS_sound (hov : ∀ g, G.ov g = true → OvFact P g) {ops : Array Oper} {n m : Nat} {Q : Exit → Act → List Frame → World → Prop} {c₀ : Frame} {rest : List Frame} {e : Ex} {t' : PT AV} {d' : List DE} {md' : Md} {σ' : AHeap} :
    ∀ (l : List Oper) (i : Nat), ops.toList.drop i = l → ∀ (t : PT AV) (md : Md) (σ : AHeap) (ρ : Ren) (w : World) (a : Act) (u : FrameMode), opsS P G ops n l t md σ = .ok e t' d' md' σ' → Inv ρ σ w → GR ρ G → TR ρ t n a.tmps → DR ρ [] a.defers → MdR ρ md u →
      SQ Q c₀ rest ρ σ w n e t' d' md' σ' → wpOpsSIn Fence.wide m P ops Q (List.range' i l.length) a ({ c₀ with mode := u } :: rest) w
  | [], i, hl, t, md, σ, ρ, w, a, u, h, hi, hg, ht, hd, hm, hQ => by
    have h' : SR.ok .normal t [] md σ = .ok e t' d' md' σ' := h
    cases h'
    exact hQ ρ w a u _ hi (Stp.refl _ _ _) ht hd hm rfl
  | o :: l, i, hl, t, md, σ, ρ, w, a, u, h, hi, hg, ht, hd, hm, hQ => by
    have hoi : ops[i]? = some o := by
      rw [← Array.getElem?_toList]
      have : (ops.toList.drop i)[0]? = some o := by rw [hl]; rfl
      simpa using this
    have hl' : ops.toList.drop (i + 1) = l := by
      rw [← List.drop_drop, hl]; rfl
    have h' : oneS P G ops n o t md σ (opsS P G ops n l) = .ok e t' d' md' σ' := h
    unfold oneS at h'
    simp only [List.length_cons, List.range'_succ, wpOpsSIn, hoi]
    refine ⟨fun f _ => trivial, ?_⟩
    cases hw : wantedA ops t o with
    | none => rw [hw] at h'; cases h'
    | some b =>
      rw [hw] at h'
      rw [wanted_sound hw ht]
      cases b with
      | false =>
        dsimp only at h'
        cases hp : putT t n o.dst unit with
        | none => rw [hp] at h'; cases h'
        | some t₁ =>
          rw [hp] at h'
          simp only [Bool.false_eq_true, if_false]
          exact opsS_sound hov l (i + 1) hl' t₁ md σ ρ w _ u h' hi hg (ht.put hp VR_unit) (by rw [put_defers]; exact hd) hm hQ
      | true =>
        dsimp only at h'
        simp only [if_true]
        rw [ite_cond] at h'
        split at h'
        · rename_i hr
          obtain ⟨c, ho, hcal⟩ := isRec_inv hr
          cases hp : putT t n o.dst (recV md) with
          | none => rw [hp] at h'; cases h'
          | some t₁ =>
            rw [hp] at h'
            have hex : (execOp a.eval o).run P w = .ok .recover w := by
              simp only [execOp, ho, resolve, hcal, Sem.run_bind, Sem.run_pure, Result.andThen_ok, invoke, builtin]
            rw [hex]
            cases md with
            | ret =>
              have hm : u = .returning := hm
              subst hm
              simp only [recoverD]
              exact opsS_sound hov l (i + 1) hl' t₁ .ret σ ρ w _ .returning h' hi hg (ht.put hp (by simp only [recV, VR])) (by rw [put_defers]; exact hd) rfl hQ
            | pan v =>
              obtain ⟨x, rfl, hv⟩ := hm
              simp only [recoverD]
              exact opsS_sound hov l (i + 1) hl' t₁ (.rcv v) σ ρ w _ (.panicking [{ v := x, recovered := true }]) h' hi hg (ht.put hp hv) (by rw [put_defers]; exact hd) ⟨x, rfl, hv⟩ hQ
            | rcv v =>
              obtain ⟨x, rfl, hv⟩ := hm
              simp only [recoverD]
              exact opsS_sound hov l (i + 1) hl' t₁ (.rcv v) σ ρ w _ (.panicking [{ v := x, recovered := true }]) h' hi hg (ht.put hp (by simp only [recV, VR])) (by rw [put_defers]; exact hd) ⟨x, rfl, hv⟩ hQ
        · cases he : opX P G (evalT G t) σ o.op with
          | val v σ₁ =>
            rw [he] at h'
            dsimp only at h'
            cases hp : putT t n o.dst v with
            | none => rw [hp] at h'; cases h'
            | some t₁ =>
              rw [hp] at h'
              have ho := op_sound (P := P) (w := w) (o := o) (f := a.eval) hov hi (ER_of _ hg ht) he (fun n => by simp)
              generalize hq : (execOp a.eval o).run P w = res at ho ⊢
              cases ho with
              | val hv hi₁ st₁ =>
                have hle := st₁.le hi
                exact opsS_sound hov l (i + 1) hl' t₁ md σ₁ _ _ _ u h' hi₁ (hg.mono hle) ((ht.mono hle).put hp hv) (by rw [put_defers]; exact hd) (hm.mono hle)
                  fun ρ' w' a' u' E i' s' => hQ ρ' w' a' u' E i' (st₁.trans s')
          | skip σ₁ =>
            rw [he] at h'
            dsimp only at h'
            cases hp : putT t n o.dst unit with
            | none => rw [hp] at h'; cases h'
            | some t₁ =>
              rw [hp] at h'
              have ho := op_sound (P := P) (w := w) (o := o) (f := a.eval) hov hi (ER_of _ hg ht) he (fun n => by simp)
              generalize hq : (execOp a.eval o).run P w = res at ho ⊢
              cases ho with
              | skip hi₁ st₁ =>
                have hle := st₁.le hi
                exact opsS_sound hov l (i + 1) hl' t₁ md σ₁ _ _ _ u h' hi₁ (hg.mono hle) ((ht.mono hle).put hp VR_unit) (by rw [put_defers]; exact hd) (hm.mono hle)
                  fun ρ' w' a' u' E i' s' => hQ ρ' w' a' u' E i' (st₁.trans s')
          | _ => rw [he] at h'; cases h'

theorem liftS_sound {ih : IhC} (hS : Sound P G ih) {n m : Nat} {Q : Exit → Act → List Frame → World → Prop} {c₀ : Frame} {rest : List Frame} {c : Code} {t : PT AV} {md : Md} {σ : AHeap} {e : Ex} {t' : PT AV} {d' : List DE} {md' : Md} {σ' : AHeap} (h : liftS md (ih c t n [] none σ) = .ok e t' d' md' σ')
    {ρ : Ren} {w : World} {a : Act} {u : FrameMode} (hi : Inv ρ σ w) (hg : GR ρ G) (ht : TR ρ t n a.tmps) (hd : DR ρ [] a.defers) (hm : MdR ρ md u) (hQ : SQ Q c₀ rest ρ σ w n e t' d' md' σ') : c.wpSIn Fence.wide m P Q a ({ c₀ with mode := u } :: rest) w := by
  cases hc : ih c t n [] none σ with
  | err k => rw [hc] at h; cases h
  | ok e₁ t₁ d₁ σ₁ =>
    rw [hc] at h
    cases h
    exact wpSIn_of_wpIn rfl (hS.run c t n [] none σ e t' d' σ' hc ρ w a none m (fun E a' w' => Q E a' ({ c₀ with mode := u } :: rest) w') hi hg ht hd trivial
      fun ρ' w' a' i s t'' d'' E hE => hQ ρ' w' a' u E i s t'' d'' (hm.mono (s.le hi)) hE)

theorem codeS_sound {ih : IhC} (hS : Sound P G ih) {n m : Nat} {c₀ : Frame} {rest : List Frame} : ∀ (k : Nat) (c : Code) (t : PT AV) (md : Md) (σ : AHeap) (e : Ex) (t' : PT AV) (d' : List DE) (md' : Md) (σ' : AHeap), codeS P G ih k c t n md σ = .ok e t' d' md' σ' →
    ∀ (Q : Exit → Act → List Frame → World → Prop) (ρ : Ren) (w : World) (a : Act) (u : FrameMode), Inv ρ σ w → GR ρ G → TR ρ t n a.tmps → DR ρ [] a.defers → MdR ρ md u → SQ Q c₀ rest ρ σ w n e t' d' md' σ' → c.wpSIn Fence.wide m P Q a ({ c₀ with mode := u } :: rest) w
  | 0, c, t, md, σ, e, t', d', md', σ', h => by cases h
  | k + 1, c, t, md, σ, e, t', d', md', σ', h => by
    intro Q ρ w a u hi hg ht hd hm hQ
    cases c with
    | seq x y =>
      have h' : seqS (codeS P G ih k x t n md σ) (fun t md σ => codeS P G ih k y t n md σ) = .ok e t' d' md' σ' := h
      refine wpSIn_seq ?_
      cases hx : codeS P G ih k x t n md σ with
      | err q => rw [hx] at h'; cases h'
      | ok e₁ t₁ d₁ md₁ σ₁ =>
        rw [hx] at h'
        by_cases he : e₁ = .normal
        · subst he
          cases d₁ with
          | cons _ _ => cases h'
          | nil =>
            refine codeS_sound hS k x t md σ _ _ _ _ _ hx _ ρ w a u hi hg ht hd hm fun ρ₁ w₁ a₁ u₁ E i₁ s₁ t₁' d₁' m₁ hE => ?_
            have hE : E = .normal := hE
            subst hE
            exact codeS_sound hS k y _ _ _ _ _ _ _ _ h' Q ρ₁ w₁ a₁ u₁ i₁ (hg.mono (s₁.le hi)) t₁' d₁' m₁ fun ρ' w' a' u' E i' s' => hQ ρ' w' a' u' E i' (s₁.trans s')
        · have h'' : SR.ok e₁ t₁ d₁ md₁ σ₁ = .ok e t' d' md' σ' := by cases e₁ <;> first | exact absurd rfl he | exact h'
          cases h''
          refine codeS_sound hS k x t md σ _ _ _ _ _ hx _ ρ w a u hi hg ht hd hm fun ρ₁ w₁ a₁ u₁ E i₁ s₁ t₁' d₁' m₁ hE => ?_
          have := hQ ρ₁ w₁ a₁ u₁ E i₁ s₁ t₁' d₁' m₁ hE
          cases e with
          | normal => exact absurd rfl he
          | pan v => obtain ⟨x, rfl, _⟩ := hE; exact this
          | exit i => have hE : E = .exit i := hE; subst hE; exact this
          | goto i => have hE : E = .goto i := hE; subst hE; exact this
          | ret => have hE : E = .ret := hE; subst hE; exact this
    | region id ops draw =>
      have h' : (bif draw then liftS md (ih (.region id ops draw) t n [] none σ) else bif hasRec ops.toList then opsS P G ops n ops.toList t md σ else liftS md (ih (.region id ops draw) t n [] none σ)) = .ok e t' d' md' σ' := h
      cases draw with
      | true => exact liftS_sound hS h' hi hg ht hd hm hQ
      | false =>
        simp only [cond_false] at h'
        rw [ite_cond] at h'
        split at h'
        · refine wpSIn_region ?_
          have := opsS_sound hS.cx.ov (m := m) (Q := Q) (c₀ := c₀) (rest := rest) ops.toList 0 rfl t md σ ρ w a u h' hi hg ht hd hm hQ
          rw [List.range_eq_range']
          simpa using this
        · exact liftS_sound hS h' hi hg ht hd hm hQ
    | _ => exact liftS_sound hS h hi hg ht hd hm hQ

theorem endS_some {fn : Func} {r : SR} {md' : Md} {σ' : AHeap} (h : endS P fn r = some (md', σ')) : ∃ e t md v, r = .ok e t [] md σ' ∧ md' = settleM md ∧ (e = .normal ∨ e = .ret) ∧ resultsA P fn t σ' = some v := by
  unfold endS at h
  split at h
  · split at h
    · rename_i v hv
      cases h
      exact ⟨_, _, _, v, rfl, rfl, .inl rfl, hv⟩
    · cases h
  · split at h
    · rename_i v hv
      cases h
      exact ⟨_, _, _, v, rfl, rfl, .inr rfl, hv⟩
    · cases h
  · cases h
theorem runDef_sound {ih : IhC} (hS : Sound P G ih) {f : Nat} {args : List AV} {xs : Array Value} {md md' : Md} {σ' : AHeap} {u : FrameMode} {m : Nat} (h : runDef P G ih f args md σ = some (md', σ')) (hi : Inv ρ σ w) (hg : GR ρ G) (hx : VRs ρ args xs.toList) (hm : MdR ρ md u)
    {R : Ending → FrameMode → World → Prop} (hR : ∀ (ρ' : Ren) (w' : World) (u' : FrameMode) (v : Value), Inv ρ' σ' w' → Stp ρ σ w ρ' σ' w' → MdR ρ' md' (Go.settle u') → R (.returned v) u' w') : CallsDIn Fence.wide m P f xs u w R := by
  unfold runDef at h
  cases hf : P.funcs[f]? with
  | none => rw [hf] at h; cases h
  | some fn =>
  rw [hf] at h
  dsimp only at h
  cases hb : fn.body with
  | none => rw [hb] at h; cases h
  | some c =>
  cases ha : argsT fn.ntmps args with
  | none => rw [hb, ha] at h; cases h
  | some t =>
  rw [hb, ha] at h
  dsimp only at h
  obtain ⟨e, t₁, md₁, v, hr, rfl, he, hres⟩ := endS_some h
  have ht := args_sound ha hx
  refine callsDIn_of_wpSIn hf hb trivial fun c₀ cs hu => ?_
  have hc₀ : ({ c₀ with mode := u } : Frame) = c₀ := by subst hu; rfl
  have key := codeS_sound hS (m := m) (c₀ := c₀) (rest := cs) 30 c t md σ e t₁ [] md₁ σ' hr (bodyPostS P fn c₀ cs R) ρ w { tmps := xs ++ Array.replicate (fn.ntmps - xs.size) undef, defers := [] } u hi hg ht rfl hm
  rw [hc₀] at key
  refine key fun ρ' w' a' u' E i' s' t'' d'' m' hE => ?_
  obtain ⟨y, hy, _⟩ := results_sound (P := P) i' t'' hres
  have hd0 : a'.defers = [] := d''
  have fin : bodyPostS P fn c₀ cs R .normal a' ({ c₀ with mode := u' } :: cs) w' := ⟨hd0, u', rfl, y, hy, hR ρ' w' u' y i' s' m'.settle⟩
  rcases he with rfl | rfl
  · have hE : E = .normal := hE
    subst hE
    exact fin
  · have hE : E = .ret := hE
    subst hE
    exact fin

theorem leave_sound {ih : IhC} (hS : Sound P G ih) {fn : Func} {m : Nat} {tmps : Array Value} {R : Ending → World → Prop} : ∀ (d : List DE) (ds : List Deferred) (md : Md) (σ : AHeap) (md₁ : Md) (σ₁ : AHeap) (ρ : Ren) (w : World) (u : FrameMode), leaveX P G ih d md σ = some (md₁, σ₁) → DR ρ d ds → Inv ρ σ w → GR ρ G → MdR ρ md u →
    (∀ (ρ' : Ren) (w' : World) (u' : FrameMode), Inv ρ' σ₁ w' → Stp ρ σ w ρ' σ₁ w' → MdR ρ' md₁ u' → LeavesIn Fence.wide m P fn tmps R [] u' w') → LeavesInM Fence.wide m P fn tmps R ds u w
  | [], ds, md, σ, md₁, σ₁, ρ, w, u, h, hd, hi, hg, hm, hk => by
    have h' : some (md, σ) = some (md₁, σ₁) := h
    cases h'
    have : ds = [] := hd
    subst this
    exact hk ρ w u hi (Stp.refl ρ σ w) hm
  | .mark b :: d, ds, md, σ, md₁, σ₁, ρ, w, u, h, hd, hi, hg, hm, hk => by
    obtain ⟨l, r, hl, rfl, hd'⟩ := hd
    have h' : (match σ.m.get b with
        | some .mark => leaveX P G ih d md (σ.setObj b .dead)
        | _ => none) = some (md₁, σ₁) := h
    cases hb : σ.m.get b with
    | none => rw [hb] at h'; cases h'
    | some o =>
      rw [hb] at h'
      cases o with
      | mark =>
        dsimp only at h'
        obtain ⟨x, hx, hox⟩ := hi.obj b _ l hb hl
        have hox' : x = .deferred (some []) := hox
        subst hox'
        obtain ⟨inv, st⟩ := hi.putObj (o' := .dead) (x := .deferred none) hb hl rfl rfl trivial
        refine ⟨hm.not_run, .inl ⟨l.blk, w.putObj l.blk (.deferred none), rfl, run_takeDeferred hx, ?_⟩⟩
        exact leave_sound hS d r md _ md₁ σ₁ ρ _ u h' hd' inv hg hm fun ρ' w' u' hi' st' => hk ρ' w' u' hi' (st.trans st')
      | _ => cases h'
  | .call f args ca :: d, ds, md, σ, md₁, σ₁, ρ, w, u, h, hd, hi, hg, hm, hk => by
    obtain ⟨xs, cs, r, rfl, hxs, hcs, hd'⟩ := hd
    have h' : (bif isGo P f then (match runDef P G ih f (appN args ca) md σ with
        | some (md', σ') => leaveX P G ih d md' σ'
        | none => none) else none) = some (md₁, σ₁) := h
    rw [ite_cond] at h'
    split at h'
    · rename_i hgo
      cases hr : runDef P G ih f (appN args ca) md σ with
      | none => rw [hr] at h'; cases h'
      | some q =>
        obtain ⟨md', σ'⟩ := q
        rw [hr] at h'
        dsimp only at h'
        have hinv : (invoke (.fn (.func f) cs) xs).run P w = .ok (.enter f (xs ++ cs)) w := by
          simp only [invoke]
          exact isGo_sound hgo
        refine ⟨hm.not_run, .inr ⟨fun h => (by cases h), .func f, cs, f, xs ++ cs, rfl, hinv, fun _ _ => trivial, ?_⟩⟩
        refine runDef_sound hS hr hi hg (by rw [appN_eq]; simpa using hxs.append hcs) hm fun ρ' w' u' v i' s' m' => ?_
        have hle := s'.le hi
        exact leave_sound hS d r md' σ' md₁ σ₁ ρ' w' (Go.settle u') h' (hd'.mono hle) i' (hg.mono hle) m' fun ρ'' w'' u'' i'' s'' => hk ρ'' w'' u'' i'' (s'.trans s'')
    · cases h'

theorem end_sound {ih : IhC} (hS : Sound P G ih) {fn : Func} {m n : Nat} {t : PT AV} {d : List DE} {md : Md} {r : KR} {a : Act} {u : FrameMode} {R : Ending → World → Prop} (h : endX P G ih fn md t d σ = r) (hne : ∀ n, r ≠ .err n) (hi : Inv ρ σ w) (hg : GR ρ G) (ht : TR ρ t n a.tmps) (hd : DR ρ d a.defers) (hm : MdR ρ md u)
    (hR : ∀ (ρ' : Ren) (w' : World) (E : Ending), Inv ρ' r.heap w' → Stp ρ σ w ρ' r.heap w' → EndR ρ' r E → R E w') : LeavesInM Fence.wide m P fn a.tmps R a.defers u w := by
  unfold endX at h
  cases hl : leaveX P G ih d md σ with
  | none => rw [hl] at h; exact absurd h.symm (hne 71)
  | some q =>
    obtain ⟨md₁, σ₁⟩ := q
    rw [hl] at h
    cases md₁ with
    | ret =>
      dsimp only at h
      cases hr : resultsA P fn t σ₁ with
      | none => rw [hr] at h; exact absurd h.symm (hne 70)
      | some v =>
        rw [hr] at h
        subst h
        refine leave_sound hS d a.defers md σ _ _ ρ w u hl hd hi hg hm fun ρ' w' u' hi' st' hm' => ?_
        have hm' : u' = .returning := hm'
        subst hm'
        obtain ⟨x, hx, hv⟩ := results_sound (P := P) hi' (ht.mono (st'.le hi)) hr
        exact ⟨x, hx, hR ρ' w' _ hi' st' ⟨x, rfl, hv⟩⟩
    | pan v =>
      dsimp only at h
      subst h
      refine leave_sound hS d a.defers md σ _ _ ρ w u hl hd hi hg hm fun ρ' w' u' hi' st' hm' => ?_
      obtain ⟨x, rfl, hv⟩ := hm'
      exact hR ρ' w' _ hi' st' ⟨x, rfl, hv⟩
    | rcv v => exact absurd h.symm (hne 71)

theorem callC_gen {ih : IhC} (hS : Sound P G ih) {f : Nat} {args : List AV} {xs : Array Value} {r : KR} (h : callC P G ih f args σ = r) (hne : ∀ n, r ≠ .err n) (hi : Inv ρ σ w) (hg : GR ρ G) (hx : VRs ρ args xs.toList)
    (rl : Option Nat) (m : Nat) {R : Ending → World → Prop} (hR : ∀ (ρ' : Ren) (w' : World) (E : Ending), Inv ρ' r.heap w' → Stp ρ σ w ρ' r.heap w' → EndR ρ' r E → R E w') : CallsIn (fenc rl) m P f xs w R := by
  refine fenc_calls rl ?_
  unfold callC at h
  cases hf : P.funcs[f]? with
  | none => rw [hf] at h; exact absurd h.symm (hne 74)
  | some fn =>
  rw [hf] at h
  dsimp only at h
  cases hb : fn.body with
  | none => rw [hb] at h; exact absurd h.symm (hne 73)
  | some c =>
  cases ha : argsT fn.ntmps args with
  | none => rw [hb, ha] at h; exact absurd h.symm (hne 73)
  | some t =>
  rw [hb, ha] at h
  dsimp only at h
  refine callsIn_of_wp_marks hf hb trivial ?_
  have ht := args_sound ha hx
  cases hc : ih c t fn.ntmps [] none σ with
  | err k => rw [hc] at h; exact absurd h.symm (hne k)
  | ok e t' d' σ₁ =>
    rw [hc] at h
    have hcode := fun (Q : Exit → Act → World → Prop) hQ => hS.run c t fn.ntmps [] none σ e t' d' σ₁ hc ρ w { tmps := xs ++ Array.replicate (fn.ntmps - xs.size) undef, defers := [] } none m Q hi hg ht rfl trivial hQ
    cases e with
    | normal =>
      refine hcode _ fun ρ' w' a' hi' st ht' hd' E hE => ?_
      have hE : E = .normal := hE
      subst hE
      exact end_sound hS h hne hi' (hg.mono (st.le hi)) ht' hd' (md := .ret) rfl fun ρ₂ w₂ E i₂ s₂ hE => hR ρ₂ w₂ E i₂ (st.trans s₂) hE
    | ret =>
      refine hcode _ fun ρ' w' a' hi' st ht' hd' E hE => ?_
      have hE : E = .ret := hE
      subst hE
      exact end_sound hS h hne hi' (hg.mono (st.le hi)) ht' hd' (md := .ret) rfl fun ρ₂ w₂ E i₂ s₂ hE => hR ρ₂ w₂ E i₂ (st.trans s₂) hE
    | pan v =>
      refine hcode _ fun ρ' w' a' hi' st ht' hd' E hE => ?_
      obtain ⟨x, rfl, hv⟩ := hE
      exact end_sound hS h hne hi' (hg.mono (st.le hi)) ht' hd' (md := .pan v) ⟨x, rfl, hv⟩ fun ρ₂ w₂ E i₂ s₂ hE => hR ρ₂ w₂ E i₂ (st.trans s₂) hE
    | exit i => exact absurd h.symm (hne 72)
    | goto i => exact absurd h.symm (hne 72)
theorem callC_sound {ih : IhC} (hS : Sound P G ih) {f : Nat} {args : List AV} {xs : Array Value} {σ' : AHeap} {v : AV} (h : callC P G ih f args σ = .ret v σ') (hi : Inv ρ σ w) (hg : GR ρ G) (hx : VRs ρ args xs.toList)
    (rl : Option Nat) (m : Nat) {R : Ending → World → Prop} (hR : ∀ (ρ' : Ren) (w' : World) (x : Value), Inv ρ' σ' w' → Stp ρ σ w ρ' σ' w' → VR ρ' v x → R (.returned x) w') : CallsIn (fenc rl) m P f xs w R :=
  callC_gen hS h (fun n h => by cases h) hi hg hx rl m fun ρ' w' E i s ⟨x, hE, hv⟩ => by subst hE; exact hR ρ' w' x i s hv

/-! Values without places. -/
theorem flat_any {ρ ρ' : Ren} {v : AV} {x : Value} (h : flatB v = true) (hv : VR ρ v x) : VR ρ' v x := by
  cases v <;> first | (simp [flatB] at h; done) | (simp only [VR] at hv ⊢; exact hv)
theorem allFlat_cons {v : AV} {l : List AV} (h : allFlat (v :: l) = true) : flatB v = true ∧ allFlat l = true := by
  have h' : (bif flatB v then allFlat l else false) = true := h
  cases hv : flatB v with
  | true => rw [hv] at h'; exact ⟨rfl, h'⟩
  | false => rw [hv] at h'; cases h'
theorem allFlat_mem : ∀ {l : List AV}, allFlat l = true → ∀ v ∈ l, flatB v = true
  | [], _, v, hv => by cases hv
  | x :: l, h, v, hv => by
    obtain ⟨h1, h2⟩ := allFlat_cons h
    rcases List.mem_cons.1 hv with rfl | hv
    · exact h1
    · exact allFlat_mem h2 v hv
theorem allFlat_any {ρ ρ' : Ren} : ∀ {vs : List AV} {xs : List Value}, allFlat vs = true → VRs ρ vs xs → VRs ρ' vs xs
  | [], xs, _, h => by rw [h.nil_inv]; exact VRs.nil
  | v :: vs, xs, h, hv => by
    obtain ⟨h1, h2⟩ := allFlat_cons h
    obtain ⟨x, r, rfl, h3, h4⟩ := hv.cons_inv
    exact VRs.cons (flat_any h1 h3) (allFlat_any h2 h4)
theorem eqFlat_eq {x y : AV} (h : eqFlat x y = true) : x = y := by
  unfold eqFlat at h
  split at h
  · rw [cond_beq] at h; rw [eq_of_beq h]
  · rw [Bool.and_eq_true, eqI_eq, decide_eq_true_eq] at h; rw [eqK_eq h.1, h.2]
  · rw [eqS_eq, decide_eq_true_eq] at h; rw [h]
  · rfl
  · rfl
  · rfl
  · rfl
  · rfl
  · cases h
theorem eqFlats_eq : ∀ {xs ys : List AV}, eqFlats xs ys = true → xs = ys
  | [], [], _ => rfl
  | [], _ :: _, h => by cases h
  | _ :: _, [], h => by cases h
  | x :: xs, y :: ys, h => by
    have h' : (bif eqFlat x y then eqFlats xs ys else false) = true := h
    rw [ite_cond] at h'
    split at h'
    · rename_i hb; rw [eqFlat_eq hb, eqFlats_eq h']
    · cases h'
theorem replN_eq (v : AV) : ∀ (n : Nat), replN n v = List.replicate n v
  | 0 => rfl
  | n + 1 => by show v :: replN n v = _; rw [replN_eq v n, List.replicate_succ]

theorem Keeps.inv {w w' : World} (hk : Keeps w w') (hi : Inv ρ σ w) : Inv ρ σ w' ∧ Stp ρ σ w ρ σ w' :=
  hi.of ⟨⟨hi.fresh, fun b l hb => Nat.lt_of_lt_of_le (hi.blk b l hb) hk.size, fun b o l hb hl => let ⟨x, hx, ho⟩ := hi.obj b o l hb hl; ⟨x, by rw [hk.same _ (hi.blk b l hl)]; exact hx, ho⟩, hi.inj⟩,
    ⟨fun _ _ => rfl, Nat.le_refl _, hk.size, fun r hr _ => hk.same r hr, fun _ h _ => h, hk.tape, hk.os, hk.out⟩⟩

/-! Two blocks alone. -/
theorem get_two {b vb : Pos} {o o' : AObj} (x : Pos) : (twoBlocks σ b o vb o').m.get x = if x = vb then some o' else if x = b then some o else none := by
  unfold twoBlocks
  rw [PT.get_put, PT.get_put, PT.get_leaf]
theorem two_inv (hi : Inv ρ σ w) {b vb : Pos} {o o₁ o' : AObj} {l : Loc} (hb : σ.m.get b = some o) (hvb : σ.m.get vb = some o') (hl : ρ b = some l) (hro : o.ro = o₁.ro)
    (ho : ∀ x, ObjR ρ l o x → ObjR ρ l o₁ x) : Inv ρ (twoBlocks σ b o₁ vb o') w := by
  have back : ∀ x q, (twoBlocks σ b o₁ vb o').m.get x = some q → ∃ q', σ.m.get x = some q' ∧ q.ro = q'.ro ∧ ((x = b ∧ q = o₁) ∨ q = q') := fun x q h => by
    rw [get_two] at h
    by_cases e : x = vb
    · rw [if_pos e] at h; cases h; exact ⟨o', by rw [e]; exact hvb, rfl, .inr rfl⟩
    · rw [if_neg e] at h
      by_cases e' : x = b
      · rw [if_pos e'] at h; cases h; exact ⟨o, by rw [e']; exact hb, hro.symm, .inl ⟨e', rfl⟩⟩
      · rw [if_neg e'] at h; cases h
  refine ⟨⟨fun x hx => ⟨(hi.fresh x hx).1, ?_⟩, hi.blk, fun x q lx hx hlx => ?_, fun x y q r lx ly hx hy hlx hly he hne => ?_⟩, hi.old.size, hi.old.same, fun r hr ⟨x, q, l', h1, h2, h3, h4⟩ => ?_⟩
  · cases hq : (twoBlocks σ b o₁ vb o').m.get x with
    | none => rfl
    | some q =>
      obtain ⟨q', h', _⟩ := back x q hq
      rw [(hi.fresh x hx).2] at h'; cases h'
  · obtain ⟨q', h', _, h''⟩ := back x q hx
    obtain ⟨y, hy, hr⟩ := hi.obj x q' lx h' hlx
    refine ⟨y, hy, ?_⟩
    rcases h'' with ⟨rfl, rfl⟩ | rfl
    · rw [hb] at h'; cases h'
      rw [hl] at hlx; cases hlx
      exact ho y hr
    · exact hr
  · obtain ⟨q', h1, h2, _⟩ := back x q hx
    obtain ⟨r', h3, h4, _⟩ := back y r hy
    rw [h2, h4]
    exact hi.inj x y q' r' lx ly h1 h3 hlx hly he hne
  · obtain ⟨q', h5, h6, _⟩ := back x q h1
    exact hi.old.no r hr ⟨x, q', l', h5, by rw [← h6]; exact h2, h3, h4⟩

theorem join_core (hi : Inv ρ σ w) {b vb : Pos} {cells cells' vc : List AV} {e ve : Nat} {l lv : Loc} (hb : σ.m.get b = some (.row cells e false)) (hvb : σ.m.get vb = some (.row vc ve false)) (hlb : ρ b = some l) (hlv : ρ vb = some lv)
    (hne : b ≠ vb) {ρ₁ : Ren} {σ₁ : AHeap} {w₁ : World} (i₁ : Inv ρ₁ σ₁ w₁) (s₁ : Stp ρ (twoBlocks σ b (.row cells' e false) vb (.row vc ve false)) w ρ₁ σ₁ w₁) {b₁ : Pos} {l₁ : Loc} {cs₁ : List AV} {o₁ k : Nat}
    (g₁ : σ₁.m.get b₁ = some (.row cs₁ e false)) (hl₁ : ρ₁ b₁ = some l₁) (gv : σ₁.m.get vb = some (.row vc ve false)) (hne₁ : b₁ ≠ vb) (hfv : allFlat vc = true) (hk : o₁ + k ≤ cs₁.length) (hfr : allFlat ((cs₁.drop o₁).take k) = true) :
    InvC (ρ.with σ.next ⟨l₁.blk, l₁.sh + o₁, l₁.cells - o₁⟩) ((σ.drop b).alloc (.row ((cs₁.drop o₁).take k) e false)) w₁ ∧
      Stp ρ σ w (ρ.with σ.next ⟨l₁.blk, l₁.sh + o₁, l₁.cells - o₁⟩) ((σ.drop b).alloc (.row ((cs₁.drop o₁).take k) e false)) w₁ := by
  have hle := hi.with_le ⟨l₁.blk, l₁.sh + o₁, l₁.cells - o₁⟩
  have hsame : ((σ.drop b).alloc (.row ((cs₁.drop o₁).take k) e false)).m.get σ.next = some (.row ((cs₁.drop o₁).take k) e false) := PT.get_put_same _ _ _
  have hget : ∀ x, x ≠ σ.next → ((σ.drop b).alloc (.row ((cs₁.drop o₁).take k) e false)).m.get x = if x = b then none else σ.m.get x := fun x hx => by
    show ((σ.m.put none b).put _ σ.next).get x = _
    rw [PT.get_put_other _ _ _ _ hx, PT.get_put]
  have old : ∀ x q, x ≠ σ.next → ((σ.drop b).alloc (.row ((cs₁.drop o₁).take k) e false)).m.get x = some q → x ≠ b ∧ σ.m.get x = some q := fun x q hx h => by
    rw [hget x hx] at h
    split at h
    · cases h
    · rename_i hxb; exact ⟨hxb, h⟩
  have hold : ∀ x lx, x ≠ σ.next → (ρ.with σ.next ⟨l₁.blk, l₁.sh + o₁, l₁.cells - o₁⟩) x = some lx → ρ x = some lx := fun x lx hx h => by rwa [Ren.with_other ρ _ hx] at h
  have hnb : ∀ x : Pos, x.num < σ.next.num → x ≠ σ.next := fun x hx e => by subst e; exact Nat.lt_irrefl _ hx
  -- what may be written on the two blocks
  have wr2 : ∀ r, Wr ρ (twoBlocks σ b (.row cells' e false) vb (.row vc ve false)) r → r = l.blk ∨ r = lv.blk := fun r ⟨x, q, lx, h1, h2, h3, h4⟩ => by
    rw [get_two] at h1
    by_cases ev : x = vb
    · subst ev; rw [hlv] at h3; cases h3; exact .inr h4.symm
    · rw [if_neg ev] at h1
      by_cases eb : x = b
      · subst eb; rw [hlb] at h3; cases h3; exact .inl h4.symm
      · rw [if_neg eb] at h1; cases h1
  have wrs : ∀ r, Wr ρ (twoBlocks σ b (.row cells' e false) vb (.row vc ve false)) r → Wr ρ σ r := fun r h => by
    rcases wr2 r h with rfl | rfl
    · exact ⟨b, _, l, hb, rfl, hlb, rfl⟩
    · exact ⟨vb, _, lv, hvb, rfl, hlv, rfl⟩
  -- other blocks lie elsewhere
  have away : ∀ x q lx, x ≠ b → x ≠ vb → σ.m.get x = some q → ρ x = some lx → lx.blk ≠ l.blk ∧ lx.blk ≠ lv.blk := fun x q lx h1 h2 h3 h4 => by
    constructor
    · intro he
      have := (hi.inj x b q _ lx l h3 hb h4 hlb he h1).2
      simp [AObj.ro] at this
    · intro he
      have := (hi.inj x vb q _ lx lv h3 hvb h4 hlv he h2).2
      simp [AObj.ro] at this
  have hnew : ∀ x q lx, x ≠ b → σ.m.get x = some q → ρ x = some lx → lx.blk ≠ l₁.blk := fun x q lx h1 h3 h4 he => by
    have hlt := hi.blk x lx h4
    have hw : Wr ρ₁ σ₁ lx.blk := ⟨b₁, _, l₁, g₁, rfl, hl₁, he.symm⟩
    by_cases h2 : x = vb
    · subst h2
      rw [hlv] at h4; cases h4
      have hlv₁ : ρ₁ x = some lv := s₁.ext x (hi.num_lt hlv) |>.trans hlv
      have := (i₁.inj b₁ x _ _ l₁ lv g₁ gv hl₁ hlv₁ he.symm hne₁).1
      simp [AObj.ro] at this
    · obtain ⟨a1, a2⟩ := away x q lx h1 h2 h3 h4
      rcases wr2 _ (s₁.wr _ hw hlt) with h | h
      · exact a1 h
      · exact a2 h
  have flatObj : ∀ {l' : Loc} {c : List AV} {e' : Nat} {y : Obj} {ρa ρb : Ren}, allFlat c = true → ObjR ρa l' (.row c e' false) y → ObjR ρb l' (.row c e' false) y := fun hc ho => by
    obtain ⟨c', fr, h1, h2, h3, h4, h5⟩ := ho
    exact ⟨c', fr, h1, h2, h3, fun i v hv => let ⟨z, hz, hzv⟩ := h4 i v hv; ⟨z, hz, flat_any (allFlat_mem hc v (List.mem_of_getElem? hv)) hzv⟩, h5⟩
  constructor
  · refine ⟨fun x hx => ?_, fun x lx hlx => ?_, fun x q lx hx hlx => ?_, fun x y q r lx ly hx hy hlx hly he hne' => ?_⟩
    · have hx' : σ.next.num + 1 ≤ x.num := by simpa [AHeap.alloc, AHeap.drop, Pos.num_succ] using hx
      have hxn : x ≠ σ.next := fun e => by subst e; omega
      have hf := hi.fresh x (by omega)
      rw [Ren.with_other ρ _ hxn, hget x hxn]
      exact ⟨hf.1, by split <;> simp [hf.2]⟩
    · by_cases hxn : x = σ.next
      · subst hxn; rw [Ren.with_same] at hlx; cases hlx; exact i₁.blk b₁ l₁ hl₁
      · exact Nat.lt_of_lt_of_le (hi.blk x lx (hold x lx hxn hlx)) s₁.size
    · by_cases hxn : x = σ.next
      · subst hxn
        rw [hsame] at hx; rw [Ren.with_same] at hlx; cases hx; cases hlx
        obtain ⟨c, fr, h1, h2, h3, h4, h5⟩ := i₁.row g₁ hl₁
        refine ⟨_, h1, c, fr, rfl, ?_, ?_, fun i v hv => ?_, fun _ j hj => h5 rfl j (by have hj' : l₁.sh + o₁ ≤ j := hj; omega)⟩
        · show c.size = l₁.sh + o₁ + (l₁.cells - o₁); omega
        · show ((cs₁.drop o₁).take k).length ≤ l₁.cells - o₁; rw [List.length_take, List.length_drop]; omega
        · have hv' : cs₁[o₁ + i]? = some v := by
            rw [List.getElem?_take] at hv
            split at hv
            · rwa [List.getElem?_drop] at hv
            · cases hv
          obtain ⟨y, hy, hyv⟩ := h4 _ v hv'
          exact ⟨y, by rw [← Nat.add_assoc] at hy; exact hy, flat_any (allFlat_mem hfr v (List.mem_of_getElem? hv)) hyv⟩
      · obtain ⟨hxb, hx'⟩ := old x q hxn hx
        have hlx' := hold x lx hxn hlx
        by_cases hxv : x = vb
        · subst hxv
          rw [hvb] at hx'; cases hx'
          rw [hlv] at hlx'; cases hlx'
          have hlv₁ : ρ₁ x = some lv := (s₁.ext x (hi.num_lt hlv)).trans hlv
          obtain ⟨y, hy, hr⟩ := i₁.obj x _ lv gv hlv₁
          exact ⟨y, hy, flatObj hfv hr⟩
        · obtain ⟨y, hy, hr⟩ := hi.obj x q lx hx' hlx'
          refine ⟨y, ?_, hr.mono hle⟩
          rw [s₁.frame _ (hi.blk x lx hlx') (fun h => ?_)]
          · exact hy
          · obtain ⟨a1, a2⟩ := away x q lx hxb hxv hx' hlx'
            rcases wr2 _ h with h | h
            · exact a1 h
            · exact a2 h
    · by_cases e1 : x = σ.next <;> by_cases e2 : y = σ.next
      · exact absurd (e1.trans e2.symm) hne'
      · subst e1
        rw [Ren.with_same] at hlx; cases hlx
        obtain ⟨hyb, hy'⟩ := old y r e2 hy
        exact absurd he.symm (hnew y r ly hyb hy' (hold y ly e2 hly))
      · subst e2
        rw [Ren.with_same] at hly; cases hly
        obtain ⟨hxb, hx'⟩ := old x q e1 hx
        exact absurd he (hnew x q lx hxb hx' (hold x lx e1 hlx))
      · exact hi.inj x y q r lx ly (old x q e1 hx).2 (old y r e2 hy).2 (hold x lx e1 hlx) (hold y ly e2 hly) he hne'
  · refine ⟨fun x hx => Ren.with_other ρ _ (hnb x hx), by simp [AHeap.alloc, AHeap.drop, Pos.num_succ], s₁.size, fun r hr hn => s₁.frame r hr fun h => hn (wrs r h), ?_, s₁.tape, s₁.os, s₁.out⟩
    rintro r ⟨x, q, lx, h1, h2, h3, rfl⟩ hr
    by_cases e1 : x = σ.next
    · subst e1
      rw [Ren.with_same] at h3; cases h3
      exact wrs _ (s₁.wr _ ⟨b₁, _, l₁, g₁, rfl, hl₁, rfl⟩ hr)
    · exact ⟨x, q, lx, (old x q e1 h1).2, h2, hold x lx e1 h3, rfl⟩

theorem join_sound (hi : Inv ρ σ w) {b vb : Pos} {cells cells' vc : List AV} {e ve : Nat} {l lv : Loc} (hb : σ.m.get b = some (.row cells e false)) (hvb : σ.m.get vb = some (.row vc ve false)) (hlb : ρ b = some l) (hlv : ρ vb = some lv)
    (hne : b ≠ vb) {ρ₁ : Ren} {σ₁ : AHeap} {w₁ : World} (i₁ : Inv ρ₁ σ₁ w₁) (s₁ : Stp ρ (twoBlocks σ b (.row cells' e false) vb (.row vc ve false)) w ρ₁ σ₁ w₁) {b₁ : Pos} {l₁ : Loc} {cs₁ : List AV} {o₁ k : Nat}
    (g₁ : σ₁.m.get b₁ = some (.row cs₁ e false)) (hl₁ : ρ₁ b₁ = some l₁) (gv : σ₁.m.get vb = some (.row vc ve false)) (hne₁ : b₁ ≠ vb) (hfv : allFlat vc = true) (hk : o₁ + k ≤ cs₁.length) (hfr : allFlat ((cs₁.drop o₁).take k) = true) :
    Inv (ρ.with σ.next ⟨l₁.blk, l₁.sh + o₁, l₁.cells - o₁⟩) ((σ.drop b).alloc (.row ((cs₁.drop o₁).take k) e false)) w₁ ∧
      Stp ρ σ w (ρ.with σ.next ⟨l₁.blk, l₁.sh + o₁, l₁.cells - o₁⟩) ((σ.drop b).alloc (.row ((cs₁.drop o₁).take k) e false)) w₁ := hi.of (join_core hi hb hvb hlb hlv hne i₁ s₁ g₁ hl₁ gv hne₁ hfv hk hfr)

theorem noPanK_ret {r : KR} {v : AV} {σ' : AHeap} (h : noPanK r = .ret v σ') : r = .ret v σ' := by
  unfold noPanK at h
  split at h
  · cases h
  · exact h
theorem noPanK_pan (r : KR) (v : AV) (σ' : AHeap) : noPanK r ≠ .pan v σ' := by
  unfold noPanK
  split
  · intro h; cases h
  · rename_i hn
    intro h
    exact hn _ _ h
theorem fork_sound {ih : IhC} (hS : Sound P G ih) {f : Nat} {args : List AV} {xs : Array Value} {σ' : AHeap} {v : AV} (h : forkX P G ih f args σ = .ret v σ') (hi : Inv ρ σ w) (hg : GR ρ G) (hx : VRs ρ args xs.toList)
    (rl : Option Nat) (m : Nat) {R : Ending → World → Prop} (hR : ∀ (ρ' : Ren) (w' : World) (x : Value), Inv ρ' σ' w' → Stp ρ σ w ρ' σ' w' → VR ρ' v x → R (.returned x) w') : CallsIn (fenc rl) m P f xs w R := by
  unfold forkX at h
  split at h
  · rename_i b off n sz i vb voff q mc
    split at h
    · rename_i cells e vc ve hb hvb
      rw [ite_cond] at h
      split at h
      · rename_i hc
        simp only [Bool.and_eq_true, Nat.ble_eq, Nat.beq_eq, lenN_eq] at hc
        obtain ⟨hne, hn1, hq1, hfi, hfv, hlen⟩ := hc
        subst hq1
        have hne' : b ≠ vb := fun e => by subst e; rw [samePos_self] at hne; simp at hne
        split at h
        · rename_i n1 r1 n2 r2 hr1 hr2
          rw [ite_cond] at h
          split at h
          · rename_i hq
            rw [Bool.and_eq_true] at hq
            have en := Nat.eq_of_beq_eq_true hq.1
            have er := eqFlats_eq hq.2
            subst en; subst er
            cases h
            -- the arguments
            obtain ⟨x1, rr, e1, hs, hx2⟩ := hx.cons_inv
            obtain ⟨x2, rr', rfl, hiv, hx3⟩ := hx2.cons_inv
            obtain ⟨x3, rr'', rfl, hvv, hx4⟩ := hx3.cons_inv
            have := hx4.nil_inv
            subst this
            simp only [VR] at hs
            obtain ⟨l, hl, hd⟩ := hs
            have hd' : ∃ c, x1 = .slice (some ⟨l.blk, l.sh + off, none⟩) n c ∧ n ≤ c ∧ off + c * sz = l.cells := by
              rcases hd with h | ⟨h0, _⟩
              · exact h
              · omega
            obtain ⟨c, rfl, hnc, hcells⟩ := hd'
            have hvv' := hvv
            simp only [VR] at hvv'
            obtain ⟨lv, hlv, _⟩ := hvv'
            -- what one run gives
            have go : ∀ (cells' : List AV) (cap : Cap) (okc : Cap → Nat → Bool), (∀ x, ObjR ρ l (.row cells e false) x → ObjR ρ l (.row cells' e false) x) →
                forkRes vb vc ve e sz (callC P G ih f [.slice b off n cap, i, .slice vb voff 1 (.known mc)] (twoBlocks σ b (.row cells' e false) vb (.row vc ve false))) okc = some (n1, r1) →
                VR ρ (.slice b off n cap) (.slice (some ⟨l.blk, l.sh + off, none⟩) n c) →
                (∀ c1 b1 o1 n1 l1 ρ1 x, okc c1 n1 = true → 1 ≤ n1 → ρ1 b1 = some l1 → VR ρ1 (.slice b1 o1 n1 c1) x → ∃ c', x = .slice (some ⟨l1.blk, l1.sh + o1, none⟩) n1 c' ∧ n1 ≤ c' ∧ o1 + c' * sz = l1.cells) →
                CallsIn (fenc rl) m P f xs w R := by
              intro cells' cap okc hobj hres hcap hok
              unfold forkRes at hres
              split at hres
              · rename_i b1 o1 n1' c1 σ1 hcall
                split at hres
                · rename_i cs1 e1' vc1 ve1 g1 gv
                  rw [ite_cond] at hres
                  split at hres
                  · rename_i hcc
                    simp only [Bool.and_eq_true, Nat.ble_eq, Nat.beq_eq, lenN_eq] at hcc
                    obtain ⟨k1, k2, k3, k4, k5, k6, k7, k8⟩ := hcc
                    cases hres
                    have hne1 : b1 ≠ vb := fun e => by subst e; rw [samePos_self] at k2; simp at k2
                    have ev := eqFlats_eq k3
                    subst ev; subst k4; subst k5
                    have hiL := two_inv hi (o₁ := .row cells' e false) hb hvb hl rfl hobj
                    refine callC_sound hS hcall hiL hg ?_ rl m fun ρ1 w1 x i1 s1 hvx => ?_
                    · rw [e1]
                      exact VRs.cons hcap (VRs.cons hiv (VRs.cons hvv VRs.nil))
                    · obtain ⟨l1, hl1⟩ : ∃ l1, ρ1 b1 = some l1 := by
                        cases c1 <;> simp only [VR] at hvx
                        · obtain ⟨l1, hl1, _⟩ := hvx; exact ⟨l1, hl1⟩
                        · obtain ⟨l1, hl1, _⟩ := hvx; exact ⟨l1, hl1⟩
                        · obtain ⟨l1, hl1, _⟩ := hvx; exact ⟨l1, hl1⟩
                      obtain ⟨c', rfl, hc1, hc2⟩ := hok c1 b1 o1 n1 l1 ρ1 x k1 k6 hl1 hvx
                      rw [takeN_eq, dropN_eq] at k8 hR
                      obtain ⟨iJ, sJ⟩ := join_sound (k := n1 * sz) hi hb hvb hl hlv hne' i1 s1 g1 hl1 gv hne1 hfv k7 k8
                      refine hR _ w1 _ iJ sJ ?_
                      simp only [VR]
                      refine ⟨_, Ren.with_same _ _ _, .inl ⟨c', rfl, hc1, ?_⟩⟩
                      show 0 + c' * sz = l1.cells - o1
                      omega
                  · cases hres
                · cases hres
              · cases hres
            by_cases hcn : c = n
            · subst hcn
              refine go cells (.known c) (isUpto sz) (fun _ h => h) hr1 (by simp only [VR]; exact ⟨l, hl, rfl⟩) fun c1 b1 o1 n1 l1 ρ1 x h1 h2 h3 h4 => ?_
              unfold isUpto at h1
              split at h1
              · rename_i s
                have := Nat.eq_of_beq_eq_true h1
                subst this
                simp only [VR] at h4
                obtain ⟨l1', h5, ⟨c', h6, h7, h8⟩ | ⟨h0, _⟩⟩ := h4
                · rw [h3] at h5; cases h5; exact ⟨c', h6, h7, h8⟩
                · omega
              · cases h1
            · have hlt : n + 1 ≤ c := by omega
              refine go (appN (takeN cells (off + n * sz)) (replN sz .any)) (.least (Nat.succ n) sz) (isLeast sz) (fun x ho => ?_) hr2 (by simp only [VR]; exact ⟨l, hl, c, rfl, hlt, hcells⟩) fun c1 b1 o1 n1 l1 ρ1 x h1 h2 h3 h4 => ?_
              · obtain ⟨cc, fr, h1, h2, h3, h4, h5⟩ := ho
                have hmul : (n + 1) * sz ≤ c * sz := Nat.mul_le_mul_right _ hlt
                have hsz : (n + 1) * sz = n * sz + sz := Nat.succ_mul n sz
                refine ⟨cc, fr, h1, h2, ?_, fun j v hv => ?_, h5⟩
                · rw [appN_eq, takeN_eq, replN_eq, List.length_append, List.length_take, List.length_replicate]; omega
                · rw [appN_eq, takeN_eq, replN_eq] at hv
                  by_cases hj : j < off + n * sz
                  · rw [List.getElem?_append_left (by rw [List.length_take]; omega), List.getElem?_take, if_pos hj] at hv
                    exact h4 j v hv
                  · have hj2 : j < (cells.take (off + n * sz) ++ List.replicate sz AV.any).length := (List.getElem?_eq_some_iff.1 hv).1
                    rw [List.length_append, List.length_take, List.length_replicate] at hj2
                    rw [List.getElem?_append_right (by rw [List.length_take]; omega), List.getElem?_replicate] at hv
                    split at hv
                    · cases hv
                      have : l.sh + j < cc.size := by omega
                      exact ⟨cc[l.sh + j], Array.getElem?_eq_getElem this, by simp only [VR]⟩
                    · cases hv
              · unfold isLeast at h1
                split at h1
                · rename_i a s
                  rw [Bool.and_eq_true, Nat.ble_eq] at h1
                  have := Nat.eq_of_beq_eq_true h1.1
                  subst this
                  simp only [VR] at h4
                  obtain ⟨l1', h5, c', h6, h7, h8⟩ := h4
                  rw [h3] at h5; cases h5
                  exact ⟨c', h6, Nat.le_trans h1.2 h7, h8⟩
                · cases h1
          · cases h
        · cases h
      · cases h
    · cases h
  · exact callC_sound hS h hi hg hx rl m hR

theorem GR.size (hi : Inv ρ σ w) (hg : GR ρ G) : G.gl ≤ w.heap.size := by
  cases hgl : G.gl with
  | zero => exact Nat.zero_le _
  | succ g =>
    obtain ⟨c, hc⟩ := hg g (by omega)
    have := hi.blk _ _ hc
    exact this
theorem laidGo_sound (hi : Inv ρ σ w) (hg : GR ρ G) : ∀ (l : List (Nat × List AV)), laidGo G.gl σ l = true → ∀ x ∈ l, LaidIs w x
  | [], _, x, hx => by cases hx
  | y :: l, h, x, hx => by
    have h' : (bif Nat.ble (Nat.succ y.1) G.gl then (match σ.m.get y.1 with
      | some (.row cells _ true) => bif allFlat y.2 then (bif eqFlats cells y.2 then laidGo G.gl σ l else false) else false
      | _ => false) else false) = true := h
    rw [ite_cond] at h'
    split at h'
    · rename_i hlt
      rw [Nat.ble_eq] at hlt
      split at h'
      · rename_i cells e hb
        rw [ite_cond] at h'
        split at h'
        · rename_i hf
          rw [ite_cond] at h'
          split at h'
          · rename_i he
            have := eqFlats_eq he
            subst this
            rcases List.mem_cons.1 hx with rfl | hx
            · obtain ⟨cn, hc⟩ := hg x.1 hlt
              obtain ⟨c, fr, h1, h2, h3, h4, _⟩ := hi.row hb hc
              have h2' : c.size = cn := by simpa using h2
              have h3' : x.2.length ≤ cn := h3
              refine ⟨c, e, fr, h1, by rw [h2']; exact h3', fun i v hv => ?_⟩
              obtain ⟨z, hz, hzv⟩ := h4 i v hv
              simp only [Nat.zero_add] at hz
              exact ⟨z, hz, flat_any (allFlat_mem hf v (List.mem_of_getElem? hv)) hzv⟩
            · exact laidGo_sound hi hg l h' x hx
          · cases h'
        · cases h'
      · cases h'
    · cases h'

/-- The laid rows' types of elements. -/
noncomputable def eOf (σ : AHeap) (g : Nat) : TypeId :=
  match σ.m.get g with
  | some (.row _ e _) => e
  | _ => 0
theorem laidGo_get {gl : Nat} : ∀ (l : List (Nat × List AV)), laidGo gl σ l = true → ∀ x ∈ l, σ.m.get x.1 = some (.row x.2 (eOf σ x.1) true)
  | [], _, x, hx => by cases hx
  | y :: l, h, x, hx => by
    have h' : (bif Nat.ble (Nat.succ y.1) gl then (match σ.m.get y.1 with
      | some (.row cells _ true) => bif allFlat y.2 then (bif eqFlats cells y.2 then laidGo gl σ l else false) else false
      | _ => false) else false) = true := h
    rw [ite_cond] at h'
    split at h'
    · split at h'
      · rename_i cells e hb
        rw [ite_cond] at h'
        split at h'
        · rw [ite_cond] at h'
          split at h'
          · rename_i he
            have := eqFlats_eq he
            rcases List.mem_cons.1 hx with rfl | hx
            · unfold eOf; rw [hb, this]
            · exact laidGo_get l h' x hx
          · cases h'
        · cases h'
      · cases h'
    · cases h'

theorem memo_sound {e : ME} (ha : Ans P G.gl G.laid e) {f : Nat} {args : List AV} {xs : Array Value} (hh : hitM G.gl G.laid e f args σ = true) (hi : Inv ρ σ w) (hg : GR ρ G) (hx : VRs ρ args xs.toList)
    (rl : Option Nat) (m : Nat) {R : Ending → World → Prop} (hR : ∀ (ρ' : Ren) (w' : World) (x : Value), Inv ρ' (layM σ e) w' → Stp ρ σ w ρ' (layM σ e) w' → VR ρ' e.v x → R (.returned x) w') : CallsIn (fenc rl) m P f xs w R := by
  unfold hitM at hh
  simp only [ite_cond] at hh
  split at hh
  case isFalse => cases hh
  rename_i hf
  split at hh
  case isFalse => cases hh
  rename_i hargs
  split at hh
  case isFalse => cases hh
  rename_i hnext
  split at hh
  case isFalse => cases hh
  rename_i hlaid
  have ef := Nat.eq_of_beq_eq_true hf
  have ea := beqAs_eq hargs
  have en : σ.next = e.next := Nat.eq_of_beq_eq_true hnext
  subst ef; subst ea
  obtain ⟨hwf, hans⟩ := ha
  have hsub := subL_all hh
  have hlg := laidGo_get G.laid hlaid
  simp only [wfM, Bool.and_eq_true, List.all_eq_true, Nat.ble_eq, Bool.not_eq_true', Bool.or_eq_true, List.any_eq_true] at hwf
  obtain ⟨w1, w2, w3, w4, w5⟩ := hwf
  -- what the call begins with is a part of the heap
  have hB : ∀ b o, (baseM G.laid (eOf σ) e).m.get b = some o → σ.m.get b = some o := fun b o h => by
    rcases baseM_get h with ⟨x, hx, rfl, rfl⟩ | ⟨x, hx, rfl, rfl⟩
    · exact hsub x hx
    · exact hlg x hx
  have hBw : ∀ b o, (baseM G.laid (eOf σ) e).m.get b = some o → o.ro = false → ∃ x ∈ e.l, x.1 = b := fun b o h hro => by
    rcases baseM_get h with ⟨x, hx, h1, _⟩ | ⟨x, hx, _, rfl⟩
    · exact ⟨x, hx, h1⟩
    · cases hro
  have hiBc : InvC ρ (baseM G.laid (eOf σ) e) w := by
    refine ⟨fun b hb => ?_, hi.blk, fun b o l h1 h2 => hi.obj b o l (hB b o h1) h2, fun b b' o o' l l' h1 h2 h3 h4 => hi.inj b b' o o' l l' (hB b o h1) (hB b' o' h2) h3 h4⟩
    have hb' : σ.next.num ≤ b.num := by rw [en]; exact hb
    have hfr := hi.fresh b hb'
    refine ⟨hfr.1, ?_⟩
    cases h : (baseM G.laid (eOf σ) e).m.get b with
    | none => rfl
    | some o => rw [hB b o h] at hfr; cases hfr.2
  have hWr : ∀ r, Wr ρ (baseM G.laid (eOf σ) e) r → Wr ρ σ r := fun r ⟨b, o, l, h1, h2, h3, h4⟩ => ⟨b, o, l, hB b o h1, h2, h3, h4⟩
  have hiB : Inv ρ (baseM G.laid (eOf σ) e) w := ⟨hiBc, hi.old.size, hi.old.same, fun r hr hw => hi.old.no r hr (hWr r hw)⟩
  refine hans (eOf σ) ρ w xs rl m R hiB hg hx fun ρ' σr w' x hl' hn' ir sr hv => ?_
  -- old blocks that the call does not touch
  have hold : ∀ b o, (layM σ e).m.get b = some o → (∃ x ∈ e.l', x.1 = b ∧ x.2 = o ∧ σr.m.get b = some o ∧ o.ro = false) ∨ ((∀ x ∈ e.l, x.1 ≠ b) ∧ σ.m.get b = some o ∧ b < e.next) := fun b o h => by
    rcases putAllM_get h with ⟨x, hx, h1, h2⟩ | ⟨_, h⟩
    · refine .inl ⟨x, hx, h1, h2, ?_, ?_⟩
      · rw [← h1, ← h2]; exact hl' x hx
      · rw [← h2]; exact (w5 x hx).2.2.1
    · obtain ⟨h1, h2⟩ := dropAll_get h
      refine .inr ⟨h1, h2, ?_⟩
      apply Classical.byContradiction
      intro hn
      have := hi.fresh b (by rw [en]; exact Nat.not_lt.1 hn)
      rw [h2] at this
      cases this.2
  have hsame : ∀ b, b < e.next → ρ' b = ρ b := fun b hb => sr.ext b hb
  -- such a block's place is not written
  have hplace : ∀ b o lb, (∀ x ∈ e.l, x.1 ≠ b) → σ.m.get b = some o → ρ b = some lb → ¬ Wr ρ (baseM G.laid (eOf σ) e) lb.blk := fun b o lb h1 h2 h3 ⟨b2, o2, l2, k1, k2, k3, k4⟩ => by
    obtain ⟨x, hx, e2⟩ := hBw b2 o2 k1 k2
    have hne : b ≠ b2 := fun e' => h1 x hx (e2.trans e'.symm)
    have := (hi.inj b b2 o o2 lb l2 h2 (hB b2 o2 k1) h3 k3 k4.symm hne).2
    rw [k2] at this; cases this
  have hle := sr.le hiB
  have fin : InvC ρ' (layM σ e) w' ∧ Stp ρ σ w ρ' (layM σ e) w' := by
   refine ⟨⟨fun b hb => ?_, ir.blk, fun b o l h1 h2 => ?_, fun b b' o o' l l' h1 h2 h3 h4 he hne => ?_⟩, ⟨fun b hb => ?_, ?_, sr.size, fun r hr hnw => sr.frame r hr fun hw => hnw (hWr r hw), fun r hw hr => ?_, sr.tape, sr.os, sr.out⟩⟩
   · have hb' : e.next' ≤ b := hb
     refine ⟨(ir.fresh b (by rw [hn']; exact hb')).1, ?_⟩
     cases h : (layM σ e).m.get b with
     | none => rfl
     | some o =>
       rcases hold b o h with ⟨x, hx, h1, _⟩ | ⟨_, _, h3⟩
       · have := (w5 x hx).2.1
         rw [blt_iff, h1] at this
         exact absurd this (Nat.not_lt.2 hb')
       · exact absurd (Nat.lt_of_lt_of_le h3 w2) (Nat.not_lt.2 hb')
   · rcases hold b o h1 with ⟨x, _, _, _, hr, _⟩ | ⟨k1, k2, k3⟩
     · exact ir.obj b o l hr h2
     · rw [hsame b k3] at h2
       obtain ⟨z, hz, hzr⟩ := hi.obj b o l k2 h2
       exact ⟨z, by rw [sr.frame _ (hi.blk b l h2) (hplace b o l k1 k2 h2)]; exact hz, hzr.mono hle⟩
   · have cross : ∀ (b b' : Nat) (o o' : AObj) (l l' : Loc), σr.m.get b = some o → o.ro = false → (∀ x ∈ e.l, x.1 ≠ b') → σ.m.get b' = some o' → b' < e.next → ρ' b = some l → ρ' b' = some l' → l.blk = l'.blk → False := fun b b' o o' l l' k1 k2 k3 k4 k5 k6 k7 k8 => by
       rw [hsame b' k5] at k7
       have hlt := hi.blk b' l' k7
       have := sr.wr l.blk ⟨b, o, l, k1, k2, k6, rfl⟩ (by rw [k8]; exact hlt)
       rw [k8] at this
       exact hplace b' o' l' k3 k4 k7 this
     rcases hold b o h1 with ⟨x, _, _, _, hr, hro⟩ | ⟨k1, k2, k3⟩
     · rcases hold b' o' h2 with ⟨x', _, _, _, hr', _⟩ | ⟨k1', k2', k3'⟩
       · exact ir.inj b b' o o' l l' hr hr' h3 h4 he hne
       · exact (cross b b' o o' l l' hr hro k1' k2' k3' h3 h4 he).elim
     · rcases hold b' o' h2 with ⟨x', _, _, _, hr', hro'⟩ | ⟨k1', k2', k3'⟩
       · exact (cross b' b o' o l' l hr' hro' k1 k2 k3 h4 h3 he.symm).elim
       · rw [hsame b k3] at h3
         rw [hsame b' k3'] at h4
         exact hi.inj b b' o o' l l' k2 k2' h3 h4 he hne
   · exact hsame b (by have : b < σ.next := hb; rw [en] at this; exact this)
   · show σ.next ≤ e.next'
     rw [en]; exact w2
   · obtain ⟨b, o, l, h1, h2, h3, rfl⟩ := hw
     rcases hold b o h1 with ⟨x, _, _, _, hr', hro⟩ | ⟨k1, k2, k3⟩
     · exact hWr _ (sr.wr _ ⟨b, o, l, hr', hro, h3, rfl⟩ hr)
     · rw [hsame b k3] at h3
       exact ⟨b, o, l, k2, h2, h3, rfl⟩
  exact hR ρ' w' x (hi.of fin).1 fin.2 hv
theorem findM_some {gl : Nat} {laid : List (Nat × List AV)} {f : Nat} {args : List AV} : ∀ {mem : List ME} {e : ME}, findM gl laid mem f args σ = some e → e ∈ mem ∧ hitM gl laid e f args σ = true
  | [], e, h => by cases h
  | y :: mem, e, h => by
    have h' : (bif hitM gl laid y f args σ then some y else findM gl laid mem f args σ) = some e := h
    rw [ite_cond] at h'
    split at h'
    · rename_i hh; cases h'; exact ⟨List.mem_cons_self, hh⟩
    · obtain ⟨h1, h2⟩ := findM_some h'
      exact ⟨List.mem_cons_of_mem _ h1, h2⟩

theorem call_sound {ih : IhC} (hS : Sound P G ih) {f : Nat} {args : List AV} {xs : Array Value} {σ' : AHeap} {v : AV} (h : callX P G ih f args σ = .ret v σ') (hi : Inv ρ σ w) (hg : GR ρ G) (hx : VRs ρ args xs.toList)
    (rl : Option Nat) (m : Nat) {R : Ending → World → Prop} (hR : ∀ (ρ' : Ren) (w' : World) (x : Value), Inv ρ' σ' w' → Stp ρ σ w ρ' σ' w' → VR ρ' v x → R (.returned x) w') : CallsIn (fenc rl) m P f xs w R := by
  unfold callX at h
  cases hk : G.ktb f args σ with
  | some u =>
    rw [hk] at h
    dsimp only at h
    rw [ite_cond] at h
    split at h
    · rename_i hf
      cases h
      refine fenc_calls rl (callsIn_wide.2 ?_)
      refine (hS.cx.ktb f args σ v hk ρ w xs hi hx).mono fun e w' ⟨x, ρ', he, hv, i', s'⟩ => ?_
      subst he
      exact hR ρ' w' x i' s' hv
    · cases h
  | none =>
  rw [hk] at h
  dsimp only at h
  cases ht : G.tbl f args with
  | some u =>
    rw [ht] at h
    dsimp only at h
    rw [ite_cond] at h
    split at h
    · rename_i hf
      simp only [Bool.and_eq_true] at hf
      obtain ⟨hf1, hf2, hf3⟩ := hf
      cases h
      refine fenc_calls rl (callsIn_wide.2 ?_)
      refine (hS.cx.tbl f args v ht w xs (GR.size hi hg) ⟨hi.old.size, hi.old.same⟩ (laidGo_sound hi hg _ hf3) (allFlat_any hf1 hx)).mono fun e w' ⟨x, he, hv, hk⟩ => ?_
      subst he
      obtain ⟨i', s'⟩ := hk.inv hi
      exact hR ρ w' x i' s' (flat_any hf2 hv)
    · cases h
  | none =>
    rw [ht] at h
    dsimp only at h
    split at h
    · rename_i e he
      cases h
      obtain ⟨h1, h2⟩ := findM_some he
      exact memo_sound (hS.cx.mem e h1) h2 hi hg hx rl m hR
    split at h
    · cases h
    rw [ite_cond] at h
    split at h
    · have h := noPanK_ret h
      unfold forkY at h
      rw [ite_cond] at h
      split at h
      · exact callC_sound hS h hi hg hx rl m hR
      · exact fork_sound hS h hi hg hx rl m hR
    · exact callC_sound hS h hi hg hx rl m hR

theorem call_pan {ih : IhC} (hS : Sound P G ih) {f : Nat} {args : List AV} {xs : Array Value} {σ' : AHeap} {v : AV} (h : callX P G ih f args σ = .pan v σ') (hi : Inv ρ σ w) (hg : GR ρ G) (hx : VRs ρ args xs.toList)
    (rl : Option Nat) (m : Nat) {R : Ending → World → Prop} (hR : ∀ (ρ' : Ren) (w' : World) (x : Value), Inv ρ' σ' w' → Stp ρ σ w ρ' σ' w' → VR ρ' v x → R (.panicked [{ v := x, recovered := false }]) w') : CallsIn (fenc rl) m P f xs w R := by
  unfold callX at h
  cases hk : G.ktb f args σ with
  | some u => rw [hk] at h; dsimp only at h; rw [ite_cond] at h; split at h <;> cases h
  | none =>
  rw [hk] at h
  dsimp only at h
  split at h
  · rw [ite_cond] at h
    split at h <;> cases h
  · split at h
    · cases h
    split at h
    · cases h
    rw [ite_cond] at h
    split at h
    · exact absurd h (noPanK_pan _ _ _)
    · exact callC_gen hS h (fun n h => by cases h) hi hg hx rl m fun ρ' w' E i s ⟨x, hE, hv⟩ => by subst hE; exact hR ρ' w' x i s hv

theorem jump_none (e : Ex) (hp : isPan e = false) : (jumpOf e).isNone = wentOn e := by cases e <;> first | rfl | cases hp
theorem ExR.exOf {e : Ex} {E : Exit} (hp : isPan e = false) (h : ExR ρ e E) : E = Ev.exOf e := by cases e <;> first | exact h | cases hp
theorem round_post {l : Nat} {R : Ending → World → Prop} {e : Ex} (hp : isPan e = false) {a : Act} (h : ∃ v w', (Instr.endRound l (jumpOf e)).run P w = .ok v w' ∧ R (.returned v) w') : roundPost P l R (exOf e) a w := by
  cases e <;> first | exact h | cases hp

theorem round_sound {ih : IhC} (hS : Sound P G ih) {b : Pos} {l : Loc} {args : List AV} {xs : Array Value} {σ' : AHeap} {v : AV} (h : roundX ih b args σ = .ret v σ') (hi : Inv ρ σ w) (hg : GR ρ G) (hx : VRs ρ args xs.toList) (hl : ρ b = some l)
    (rl : Option Nat) (m : Nat) {R : Ending → World → Prop} (hR : ∀ (ρ' : Ren) (w' : World) (x : Value), Inv ρ' σ' w' → Stp ρ σ w ρ' σ' w' → VR ρ' v x → R (.returned x) w') :
    ∃ f tmps assign body, (Instr.yield l.blk xs).run P w = .ok (.round l.blk f tmps assign body) w ∧ RoundIn (fenc rl) m P l.blk f tmps assign body w R := by
  unfold roundX at h
  cases hb : σ.m.get b with
  | none => rw [hb] at h; cases h
  | some o =>
  rw [hb] at h
  cases o with
  | loop state pending tmps n params assign body df =>
    dsimp only at h
    cases hp : putAll n params args tmps with
    | none => rw [hp] at h; cases h
    | some t =>
    rw [hp] at h
    dsimp only at h
    obtain ⟨x, hh, fn, tmps', l', rfl, hdf, htm⟩ := hi.obj b _ l hb hl
    obtain ⟨hlen, ht⟩ := putAll_sound params args tmps t tmps' xs.toList hp htm hx
    refine ⟨fn, _, assign, body, run_yield hh (by simpa using hlen.symm), ?_⟩
    have hfold : ((params.toArray.zip xs).foldl (fun tmps (t, a) => tmps.setIfInBounds t a) tmps') = (params.zip xs.toList).foldl (fun tmps (t, a) => tmps.setIfInBounds t a) tmps' := by
      rw [← Array.foldl_toList, Array.toList_zip]
    refine roundIn_of_wpIn (fenc_fn rl _) ?_
    rw [fenc_in]
    dsimp only
    rw [hfold]
    cases hc : ih assign t n [] (some b) σ with
    | err k => rw [hc] at h; cases h
    | ok e t₁ d₁ σ₁ =>
    rw [hc] at h
    cases e with
    | normal =>
      cases d₁ with
      | nil =>
        dsimp only at h
        refine hS.run assign t n [] (some b) σ _ t₁ [] σ₁ hc ρ w _ (some l.blk) m _ hi hg ht rfl ⟨l, hl, rfl⟩ fun ρ₁ w₁ a₁ hi₁ st₁ ht₁ hd₁ E hE => ?_
        have hE : E = .normal := hE
        subst hE
        have hl₁ := st₁.le hi b l hl
        have hg₁ := hg.mono (st₁.le hi)
        show ∃ w₂, _
        cases hb₁ : σ₁.m.get b with
        | none => rw [hb₁] at h; cases h
        | some o₁ =>
        rw [hb₁] at h
        cases o₁ with
        | loop state₁ p₁ tmps₁ n₁ params₁ assign₁ body₁ df₁ =>
          cases state₁ with
          | ready =>
            dsimp only at h
            obtain ⟨x₁, hh₁, fn₁, tmps₁', l₁', rfl, hdf₁, htm₁⟩ := hi₁.obj b _ l hb₁ hl₁
            obtain ⟨inv₂, st₂⟩ := hi₁.putObj (o' := .loop .busy p₁ tmps₁ n₁ params₁ assign₁ body₁ df₁) hb₁ hl₁ rfl rfl (x := .loop { state := .busy, pending := p₁, fn := fn₁, tmps := tmps₁', params := params₁.toArray, assign := assign₁, body := body₁, defers := l₁'.blk }) ⟨fn₁, tmps₁', l₁', rfl, hdf₁, htm₁⟩
            refine ⟨_, run_beginRound hh₁ rfl, ?_⟩
            cases hc₂ : ih body t₁ n [] (some b) (σ₁.setObj b (.loop .busy p₁ tmps₁ n₁ params₁ assign₁ body₁ df₁)) with
            | err k => rw [hc₂] at h; cases h
            | ok e₂ t₂ d₂ σ₂ =>
            rw [hc₂] at h
            cases d₂ with
            | cons _ _ => cases h
            | nil =>
            dsimp only at h
            cases hpan : isPan e₂ with
            | true => rw [hpan] at h; cases h
            | false =>
            rw [hpan] at h
            simp only [cond_false] at h
            refine hS.run body t₁ n [] (some b) _ e₂ t₂ [] σ₂ hc₂ ρ₁ _ a₁ (some l.blk) m _ inv₂ hg₁ ht₁ hd₁ ⟨l, hl₁, rfl⟩ fun ρ₃ w₃ a₃ hi₃ st₃ ht₃ hd₃ E hE => ?_
            have hE := hE.exOf hpan
            subst hE
            have hl₃ := st₃.le inv₂ b l hl₁
            cases hb₃ : σ₂.m.get b with
            | none => rw [hb₃] at h; cases h
            | some o₃ =>
            rw [hb₃] at h
            cases o₃ with
            | loop state₃ p₃ tmps₃ n₃ params₃ assign₃ body₃ df₃ =>
              dsimp only at h
              cases h
              obtain ⟨x₃, hh₃, fn₃, tmps₃', l₃', rfl, hdf₃, htm₃⟩ := hi₃.obj b _ l hb₃ hl₃
              have hst : (if (jumpOf e₂).isNone then LoopState.ready else .done) = stateOf e₂ := by cases e₂ <;> first | rfl | cases hpan
              obtain ⟨inv₄, st₄⟩ := hi₃.putObj (o' := .loop (stateOf e₂) (jumpOf e₂) tmps₃ n₃ params₃ assign₃ body₃ df₃) hb₃ hl₃ rfl rfl
                (x := .loop { state := stateOf e₂, pending := jumpOf e₂, fn := fn₃, tmps := tmps₃', params := params₃.toArray, assign := assign₃, body := body₃, defers := l₃'.blk }) ⟨fn₃, tmps₃', l₃', rfl, hdf₃, htm₃⟩
              refine round_post hpan ⟨.bool (wentOn e₂), _, ?_, hR ρ₃ _ _ inv₄ (((st₁.trans st₂).trans st₃).trans st₄) (by simp only [VR])⟩
              rw [run_endRound _ hh₃, jump_none _ hpan]
              have hst' : (if wentOn e₂ = true then LoopState.ready else .done) = stateOf e₂ := by rw [← jump_none _ hpan]; exact hst
              rw [hst']
            | _ => cases h
          | _ => cases h
        | _ => cases h
      | cons _ _ => cases h
    | _ => cases h
  | _ => cases h

/-- An operation's effect. -/
theorem eff_sound {ih : IhC} (hS : Sound P G ih) {o : Oper} {r : HR} {res : Result Next} {v : AV} {σ' : AHeap} (hi : Inv ρ σ w) (hg : GR ρ G) (ho : HOut P ρ σ w r res) (h : effX P G ih r = .ret v σ') (rl : Option Nat) (m : Nat) {a : Act} {next : Act → World → Prop} {Q : Exit → Act → World → Prop}
    (hn : ∀ (ρ' : Ren) (w' : World) (x : Value), Inv ρ' σ' w' → Stp ρ σ w ρ' σ' w' → VR ρ' v x → next (a.put o.dst x) w') : o.uponIn (fenc rl) m P a next Q res := by
  cases ho with
  | val hv hi' st =>
    cases h
    rw [Oper.uponIn_value]
    exact hn _ _ _ hi' st hv
  | skip hi' st =>
    cases h
    rw [Oper.uponIn_skip]
    exact hn _ _ _ hi' st VR_unit
  | enter hv =>
    rw [Oper.uponIn_enter]
    exact ⟨fenc_deep rl m, call_sound hS h hi hg hv rl _ fun ρ' w' x i s q => hn ρ' w' x i s q⟩
  | round hv hl hr =>
    subst hr
    obtain ⟨f, tmps, assign, body, h1, h2⟩ := round_sound hS h hi hg hv hl rl (m - 1) (R := fun
      | .returned v, w'' => next (a.put o.dst v) w''
      | .panicked chain, w'' => Q (.panic chain) a w''
      | .outgrown, _ => LetsOut Q) (fun ρ' w' x i s q => hn ρ' w' x i s q)
    rw [h1, Oper.uponIn_round]
    exact ⟨fenc_deep rl m, h2⟩
  | pan hv => cases h

theorem roundX_pan {ih : IhC} {l : Pos} {args : List AV} {v : AV} {σ' : AHeap} : roundX ih l args σ ≠ .pan v σ' := by
  intro h
  unfold roundX at h
  repeat' (first | (cases h; done) | (rw [ite_cond] at h) | split at h)
theorem eff_pan {ih : IhC} (hS : Sound P G ih) {o : Oper} {r : HR} {res : Result Next} {v : AV} {σ' : AHeap} (hi : Inv ρ σ w) (hg : GR ρ G) (ho : HOut P ρ σ w r res) (h : effX P G ih r = .pan v σ') (rl : Option Nat) (m : Nat) {a : Act} {next : Act → World → Prop} {Q : Exit → Act → World → Prop}
    (hn : ∀ (ρ' : Ren) (w' : World) (x : Value), Inv ρ' σ' w' → Stp ρ σ w ρ' σ' w' → VR ρ' v x → Q (.panic [{ v := x, recovered := false }]) a w') : o.uponIn (fenc rl) m P a next Q res := by
  cases ho with
  | val hv hi' st => cases h
  | skip hi' st => cases h
  | enter hv =>
    rw [Oper.uponIn_enter]
    exact ⟨fenc_deep rl m, call_pan hS h hi hg hv rl _ fun ρ' w' x i s q => hn ρ' w' x i s q⟩
  | round hv hl hr => exact absurd h roundX_pan
  | pan hv =>
    cases h
    rw [Oper.uponIn_panic]
    exact hn _ _ _ hi (Stp.refl _ _ _) hv

theorem eff_not_err' {ih : IhC} {r : HR} {v : AV} {σ' : AHeap} (h : effX P G ih r = .pan v σ') (n : Nat) : r ≠ .err n := by
  intro e; subst e; cases h
theorem one_pan {ih : IhC} (hS : Sound P G ih) {ev : Operand → Option AV} {o : Oper} {a : Act} {v : AV} {σ' : AHeap} (hi : Inv ρ σ w) (hg : GR ρ G) (hE : ER ρ ev a.eval o.op) (h : effX P G ih (opX P G ev σ o.op) = .pan v σ') (rl : Option Nat) (m : Nat) {next : Act → World → Prop} {Q : Exit → Act → World → Prop}
    (hn : ∀ (ρ' : Ren) (w' : World) (x : Value), Inv ρ' σ' w' → Stp ρ σ w ρ' σ' w' → VR ρ' v x → Q (.panic [{ v := x, recovered := false }]) a w') : o.wpIn (fenc rl) m P a w next Q := by
  have hne := eff_not_err' h
  refine ⟨fun f _ => fenc_fn rl f, ?_⟩
  rw [Oper.semAt_eq _ _ _ (op_no_defer hne)]
  exact eff_pan hS hi hg (op_sound hS.cx.ov hi hE rfl hne) h rl m hn

theorem eff_not_err {ih : IhC} {r : HR} {v : AV} {σ' : AHeap} (h : effX P G ih r = .ret v σ') (n : Nat) : r ≠ .err n := by
  intro e; subst e; cases h

/-- One operation, carried out. -/
theorem one_wpIn {ih : IhC} (hS : Sound P G ih) {ev : Operand → Option AV} {o : Oper} {a : Act} {v : AV} {σ' : AHeap} (hi : Inv ρ σ w) (hg : GR ρ G) (hE : ER ρ ev a.eval o.op) (h : effX P G ih (opX P G ev σ o.op) = .ret v σ') (rl : Option Nat) (m : Nat) {next : Act → World → Prop} {Q : Exit → Act → World → Prop}
    (hn : ∀ (ρ' : Ren) (w' : World) (x : Value), Inv ρ' σ' w' → Stp ρ σ w ρ' σ' w' → VR ρ' v x → next (a.put o.dst x) w') : o.wpIn (fenc rl) m P a w next Q := by
  have hne := eff_not_err h
  refine ⟨fun f _ => fenc_fn rl f, ?_⟩
  rw [Oper.semAt_eq _ _ _ (op_no_defer hne)]
  exact eff_sound hS hi hg (op_sound hS.cx.ov hi hE rfl hne) h rl m hn

theorem ops_sound {ih : IhC} (hS : Sound P G ih) {ops : Array Oper} {n m : Nat} {d : List DE} (rl : Option Nat) {Q : Exit → Act → World → Prop} {e : Ex} {t' : PT AV} {d' : List DE} {σ' : AHeap} :
    ∀ (l : List Oper) (i : Nat), ops.toList.drop i = l → ∀ (t : PT AV) (σ : AHeap) (ρ : Ren) (w : World) (a : Act), fixD d (opsX P G ih ops n d l t σ) = .ok e t' d' σ' → Inv ρ σ w → GR ρ G → TR ρ t n a.tmps → DR ρ d a.defers →
      (∀ (ρ' : Ren) (w' : World) (a' : Act), Inv ρ' σ' w' → Stp ρ σ w ρ' σ' w' → TR ρ' t' n a'.tmps → DR ρ' d' a'.defers → Qx Q ρ' e a' w') → wpOpsIn (fenc rl) m P ops Q (List.range' i l.length) a w
  | [], i, hl, t, σ, ρ, w, a, h, hi, hg, ht, hd, hQ => by
    have h' : CR.ok .normal t d σ = .ok e t' d' σ' := h
    cases h'
    exact hQ ρ w a hi (Stp.refl _ _ _) ht hd _ rfl
  | o :: l, i, hl, t, σ, ρ, w, a, h, hi, hg, ht, hd, hQ => by
    have hoi : ops[i]? = some o := by
      rw [← Array.getElem?_toList]
      have : (ops.toList.drop i)[0]? = some o := by rw [hl]; rfl
      simpa using this
    have hl' : ops.toList.drop (i + 1) = l := by
      rw [← List.drop_drop, hl]; rfl
    have h' : fixD d (oneX P G ih true ops n o t σ (opsX P G ih ops n d l)) = .ok e t' d' σ' := h
    unfold oneX at h'
    simp only [List.length_cons, List.range'_succ, wpOpsIn, hoi]
    cases hw : wantedA ops t o with
    | none => rw [hw] at h'; cases h'
    | some b =>
      rw [hw] at h'
      rw [wanted_sound hw ht]
      cases b with
      | false =>
        dsimp only at h'
        cases hp : putT t n o.dst unit with
        | none => rw [hp] at h'; cases h'
        | some t₁ =>
          rw [hp] at h'
          simp only [Bool.false_eq_true, if_false]
          exact ⟨fun f _ => fenc_fn rl f, ops_sound hS rl l (i + 1) hl' t₁ σ ρ w _ h' hi hg (ht.put hp VR_unit) (by rw [put_defers]; exact hd) hQ⟩
      | true =>
        dsimp only at h'
        cases he : effX P G ih (opX P G (evalT G t) σ o.op) with
        | err k => rw [he] at h'; cases h'
        | pan v σ₁ =>
          rw [he] at h'
          have h' : CR.ok (.pan v) t d σ₁ = .ok e t' d' σ' := h'
          cases h'
          simp only [if_true]
          refine one_pan hS hi hg (ER_of _ hg ht) he rl m fun ρ₁ w₁ x hi₁ st₁ hv => ?_
          have hle := st₁.le hi
          exact hQ ρ₁ w₁ a hi₁ st₁ (ht.mono hle) (hd.mono hle) _ ⟨x, rfl, hv⟩
        | ret v σ₁ =>
          rw [he] at h'
          dsimp only at h'
          cases hp : putT t n o.dst v with
          | none => rw [hp] at h'; cases h'
          | some t₁ =>
            rw [hp] at h'
            simp only [if_true]
            refine one_wpIn hS hi hg (ER_of _ hg ht) he rl m fun ρ₁ w₁ x hi₁ st₁ hv => ?_
            have hle := st₁.le hi
            exact ops_sound hS rl l (i + 1) hl' t₁ σ₁ ρ₁ w₁ _ h' hi₁ (hg.mono hle) ((ht.mono hle).put hp hv) (by rw [put_defers]; exact hd.mono hle)
              fun ρ' w' a' i' s' => hQ ρ' w' a' i' (st₁.trans s')

theorem isDef_inv {o : Oper} (h : isDef o = true) : ∃ c, o.op = .defer c := by
  unfold isDef at h
  split at h
  · rename_i c hc; exact ⟨c, hc⟩
  · cases h
theorem opsD_sound (hov : ∀ g, G.ov g = true → OvFact P g) {ops : Array Oper} {n m : Nat} {Q : Exit → Act → World → Prop} {e : Ex} {t' : PT AV} {d' : List DE} {σ' : AHeap} :
    ∀ (l : List Oper) (i : Nat), ops.toList.drop i = l → ∀ (d : List DE) (t : PT AV) (σ : AHeap) (ρ : Ren) (w : World) (a : Act), opsD P G ops n l d t σ = .ok e t' d' σ' → Inv ρ σ w → GR ρ G → TR ρ t n a.tmps → DR ρ d a.defers →
      (∀ (ρ' : Ren) (w' : World) (a' : Act), Inv ρ' σ' w' → Stp ρ σ w ρ' σ' w' → TR ρ' t' n a'.tmps → DR ρ' d' a'.defers → Qx Q ρ' e a' w') → wpOpsIn (fenc none) m P ops Q (List.range' i l.length) a w
  | [], i, hl, d, t, σ, ρ, w, a, h, hi, hg, ht, hd, hQ => by
    have h' : CR.ok .normal t d σ = .ok e t' d' σ' := h
    cases h'
    exact hQ ρ w a hi (Stp.refl _ _ _) ht hd _ rfl
  | o :: l, i, hl, d, t, σ, ρ, w, a, h, hi, hg, ht, hd, hQ => by
    have hoi : ops[i]? = some o := by
      rw [← Array.getElem?_toList]
      have : (ops.toList.drop i)[0]? = some o := by rw [hl]; rfl
      simpa using this
    have hl' : ops.toList.drop (i + 1) = l := by
      rw [← List.drop_drop, hl]; rfl
    have h' : oneD P G ops n o d t σ (opsD P G ops n l) = .ok e t' d' σ' := h
    unfold oneD at h'
    simp only [List.length_cons, List.range'_succ, wpOpsIn, hoi]
    cases hw : wantedA ops t o with
    | none => rw [hw] at h'; cases h'
    | some b =>
      rw [hw] at h'
      rw [wanted_sound hw ht]
      cases b with
      | false =>
        dsimp only at h'
        cases hp : putT t n o.dst unit with
        | none => rw [hp] at h'; cases h'
        | some t₁ =>
          rw [hp] at h'
          simp only [Bool.false_eq_true, if_false]
          exact ⟨fun f _ => fenc_fn none f, opsD_sound hov l (i + 1) hl' d t₁ σ ρ w _ h' hi hg (ht.put hp VR_unit) (by rw [put_defers]; exact hd) hQ⟩
      | true =>
        dsimp only at h'
        simp only [if_true]
        rw [ite_cond] at h'
        split at h'
        · rename_i hr
          obtain ⟨c, ho⟩ := isDef_inv hr
          rw [ho] at h'
          cases hda : deferA P G t (.defer c) with
          | none => rw [hda] at h'; cases h'
          | some de =>
            rw [hda] at h'
            dsimp only at h'
            cases hp : putT t n o.dst unit with
            | none => rw [hp] at h'; cases h'
            | some t₁ =>
              rw [hp] at h'
              unfold deferA at hda
              dsimp only at hda
              split at hda
              · rename_i g hcal
                split at hda
                · rename_i u1 u2 q fi ca args hev has
                  cases hda
                  have hv := eval_sound (a := a) hg ht hev
                  simp only [VR] at hv
                  obtain ⟨fi', ca', hf, hfi, hca⟩ := hv
                  have hargs := evs_sound (ρ := ρ) (f := a.eval) has (fun x _ v hv => eval_sound hg ht hv)
                  have hex : (execOp a.eval o).run P w = .ok (.defer { target := .fn (.func q) ca', args := fi' ++ c.args.map a.eval }) w := by
                    simp only [execOp, ho, resolve, hcal, hf, Deferred.ofValue, Sem.run_bind, Sem.run_pure, Result.andThen_ok]
                  refine ⟨fun f _ => fenc_fn none f, ?_⟩
                  have hround : (fenc none).round = none := fenc_round none
                  rw [hround, Oper.semAt_none, hex, Oper.uponIn_defer]
                  refine opsD_sound hov l (i + 1) hl' _ t₁ σ ρ w _ h' hi hg (TR.put (a := { a with defers := _ }) ht hp VR_unit) ?_ hQ
                  rw [put_defers]
                  exact ⟨_, _, _, rfl, by rw [appN_eq]; simpa using hfi.append hargs, hca, hd⟩
                · cases hda
              · cases hda
        · cases he : opX P G (evalT G t) σ o.op with
          | val v σ₁ =>
            rw [he] at h'
            dsimp only at h'
            cases hp : putT t n o.dst v with
            | none => rw [hp] at h'; cases h'
            | some t₁ =>
              rw [hp] at h'
              have hne : ∀ n, opX P G (evalT G t) σ o.op ≠ .err n := fun n => by rw [he]; simp
              have ho := op_sound (P := P) (w := w) (o := o) (f := a.eval) hov hi (ER_of _ hg ht) he (fun n => by simp)
              refine ⟨fun f _ => fenc_fn none f, ?_⟩
              rw [Oper.semAt_eq _ _ _ (op_no_defer hne)]
              generalize hq : (execOp a.eval o).run P w = res at ho ⊢
              cases ho with
              | val hv hi₁ st₁ =>
                have hle := st₁.le hi
                rw [Oper.uponIn_value]
                exact opsD_sound hov l (i + 1) hl' d t₁ σ₁ _ _ _ h' hi₁ (hg.mono hle) ((ht.mono hle).put hp hv) (by rw [put_defers]; exact hd.mono hle)
                  fun ρ' w' a' i' s' => hQ ρ' w' a' i' (st₁.trans s')
          | skip σ₁ =>
            rw [he] at h'
            dsimp only at h'
            cases hp : putT t n o.dst unit with
            | none => rw [hp] at h'; cases h'
            | some t₁ =>
              rw [hp] at h'
              have hne : ∀ n, opX P G (evalT G t) σ o.op ≠ .err n := fun n => by rw [he]; simp
              have ho := op_sound (P := P) (w := w) (o := o) (f := a.eval) hov hi (ER_of _ hg ht) he (fun n => by simp)
              refine ⟨fun f _ => fenc_fn none f, ?_⟩
              rw [Oper.semAt_eq _ _ _ (op_no_defer hne)]
              generalize hq : (execOp a.eval o).run P w = res at ho ⊢
              cases ho with
              | skip hi₁ st₁ =>
                have hle := st₁.le hi
                rw [Oper.uponIn_skip]
                exact opsD_sound hov l (i + 1) hl' d t₁ σ₁ _ _ _ h' hi₁ (hg.mono hle) ((ht.mono hle).put hp VR_unit) (by rw [put_defers]; exact hd.mono hle)
                  fun ρ' w' a' i' s' => hQ ρ' w' a' i' (st₁.trans s')
          | _ => rw [he] at h'; cases h'
end
end Go.Ev

