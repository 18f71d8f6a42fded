/- Part of the proof: an evaluator of the model's code, rules for walks on it, walks. Without conditions. -/
import Derived.Test.YtgppgbbkngfanaaGreatDoorEa
import Derived.Lib.UnsafeStr
import Derived.Lib.ConvBytes
import Derived.RangeFuncNested
import Derived.RecoverIn
import Derived.TacticsIn
import Derived.OrdersIn
import Derived.Sort.LoopGhostIn
import Derived.Scope
import Derived.ProofKit
import Derived.LaidSub
set_option linter.unusedSectionVars false
set_option linter.unusedVariables false
set_option linter.unusedSimpArgs false
noncomputable section
namespace Go.Ev
variable [Env]
section
variable {P : Program} {ρ : Ren} {σ : AHeap} {w : World}
theorem data_sound {ts : Array TypeId} {ty : TypeId} {x v : AV} {y : Value} (h : dataA x = some v) (hx : VR ρ x y) : ∃ z, (Builtin.unsafeSliceData_ ts ty #[y]).run P w = .ok z w ∧ VR ρ v z := by
  unfold dataA at h
  split at h
  · cases h
    simp only [VR] at hx
    subst hx
    exact ⟨_, Lib.run_unsafeSliceData_nil w ts ty 0 0, by simp only [VR]⟩
  · rename_i b off len c
    rw [ite_cond] at h
    split at h
    · rename_i hr
      cases h
      cases c with
      | known c =>
        simp only [VR] at hx
        obtain ⟨l, hl, rfl⟩ := hx
        have hr : Nat.ble 1 c = true := hr
        rw [Nat.ble_eq] at hr
        exact ⟨_, Lib.run_unsafeSliceData_row w ts ty _ _ _ (by omega), by simp only [VR]; simp_all⟩
      | upto s =>
        have hr : Nat.ble 1 len = true := hr
        rw [Nat.ble_eq] at hr
        simp only [VR] at hx
        obtain ⟨l, hl, ⟨c, rfl, hc, _⟩ | ⟨h0, _⟩⟩ := hx
        · exact ⟨_, Lib.run_unsafeSliceData_row w ts ty _ _ _ (by omega), by simp only [VR]; simp_all⟩
        · omega
      | least a s =>
        have hr : Nat.ble 1 a = true := hr
        rw [Nat.ble_eq] at hr
        simp only [VR] at hx
        obtain ⟨l, hl, c, rfl, hc, _⟩ := hx
        exact ⟨_, Lib.run_unsafeSliceData_row w ts ty _ _ _ (by omega), by simp only [VR]; simp_all⟩
    · cases h
  · cases h
theorem bytes_of : ∀ {l : List AV} {s : List Nat}, allSome byteA l = some s → s.length = l.length ∧ (∀ n ∈ s, n ≤ 255) ∧ ∀ (j : Nat) (n : Nat), s[j]? = some n → l[j]? = some (.int .u8 (.ofNat n))
  | [], s, h => by rw [allSome_nil] at h; simp_all
  | x :: l, s, h => by
    obtain ⟨y, r, h1, h2, rfl⟩ := allSome_cons h
    obtain ⟨k1, k2, k3⟩ := bytes_of h2
    have hx : x = .int .u8 (.ofNat y) ∧ y ≤ 255 := by
      unfold byteA at h1
      split at h1
      · rw [ite_cond] at h1
        split at h1
        · simp_all
        · cases h1
      · cases h1
    grind
theorem unsafeString_none (ts : Array TypeId) (ty : TypeId) (k : Value) : Builtin.unsafeString_ ts ty #[.pointer none, k] =
      (do
        let n ← asInt k
        let some _ := ts[0]? | stuck "unsafe.String: no argument types"
        if n < 0 then runtimePanic (.error "unsafe.String: len out of range")
        if n > IntKind.i64.max then unsupported (.unsafePointer "String: a length above the largest int")
        if n = 0 then pure (.string .empty)
        else runtimePanic (.error "unsafe.String: ptr is nil and len is not zero")) := rfl
theorem unsafeString_some (ts : Array TypeId) (ty : TypeId) (a : Addr) (k : Value) : Builtin.unsafeString_ ts ty #[.pointer (some a), k] =
      (do
        let n ← asInt k
        let some pt := ts[0]? | stuck "unsafe.String: no argument types"
        if n < 0 then runtimePanic (.error "unsafe.String: len out of range")
        if n > IntKind.i64.max then unsupported (.unsafePointer "String: a length above the largest int")
        if n = 0 then pure (.string .empty)
        else if ← variablesAt a (← elemOf pt) n.toNat then do
          let s ← loadBytes a .empty n.toNat
          freeze a n.toNat
          pure (.string s)
        else unsupported (.unsafePointer "String: not so many bytes at ptr")) := rfl
theorem run_unsafeString_zero {ts : Array TypeId} {ty pt : TypeId} (ht : ts[0]? = some pt) (p : Option Addr) : (Builtin.unsafeString_ ts ty #[.pointer p, .int .i64 0]).run P w = .ok (.string .empty) w := by
  have hmax : IntKind.i64.max = 9223372036854775807 := rfl
  cases p with
  | none => rw [unsafeString_none]; simp [ht, asInt, asIntOf, hmax]
  | some a => rw [unsafeString_some]; simp [ht, asInt, asIntOf, hmax]
theorem run_unsafeString_at {ts : Array TypeId} {ty pt e : TypeId} (ht : ts[0]? = some pt) (hp : P.underlying pt = some (.pointer e)) (hc : P.cellsOf e = 1) (g off cells : Nat) (hsh : w.shape? g = some (e, cells)) (l : List UInt8) (h0 : l ≠ []) (hn : off + l.length ≤ cells) (h63 : l.length ≤ 9223372036854775807)
    (hcell : ∀ j x, l[j]? = some x → w.cell? ((⟨g, off, none⟩ : Addr).add j) = some (.int .u8 x.toNat)) :
    (Builtin.unsafeString_ ts ty #[.pointer (some ⟨g, off, none⟩), .int .i64 l.length]).run P w = .ok (.string ⟨l.toArray⟩) (w.freeze ⟨g, off, none⟩ l.length) := by
  have hl : l.length ≠ 0 := by simpa using h0
  have hlb := Lib.run_loadBytes (P := P) w l ⟨g, off, none⟩ .empty hcell
  have hlies : liesAt P P.depth e (cells / P.cellsOf e) off e l.length = true := by
    have hd : P.depth = (2 * (P.types.size + Made.depth) + 1) + 1 := rfl
    rw [hd]
    simp only [liesAt, Bool.or_eq_true]
    left
    rw [hd]
    simp [rowAt, hc, hn, sameLayout, Nat.mod_one]
  have h63' : ¬ (9223372036854775807 : Int) < (l.length : Int) := by omega
  have hmax : IntKind.i64.max = 9223372036854775807 := rfl
  have hneg : ¬ (l.length : Int) < 0 := by omega
  rw [unsafeString_some]
  simp [ht, asInt, asIntOf, hmax, h63', hneg, hl, variablesAt, hsh, elemOf, run_underlying hp, hlies, hlb]
theorem ustr_sound (hi : Inv ρ σ w) {ts : Array TypeId} {ty : TypeId} {p n : AV} {yp yn : Value} {s : List Nat} {σ' : AHeap} (h : ustrA P σ ts[0]? p n = some (s, σ')) (hp : VR ρ p yp) (hn : VR ρ n yn) :
    ∃ z w', (Builtin.unsafeString_ ts ty #[yp, yn]).run P w = .ok z w' ∧ VR ρ (.str s) z ∧ Inv ρ σ' w' ∧ Stp ρ σ w ρ σ' w' := by
  unfold ustrA at h
  split at h
  · rename_i k
    simp only [VR] at hn
    subst hn
    rw [ite_cond] at h
    split at h
    · rename_i h0
      have := Nat.eq_of_beq_eq_true h0
      subst this
      split at h
      · rename_i u1 u2 pt ht
        cases h
        simp only [VR] at hp
        subst hp
        exact ⟨_, w, run_unsafeString_zero ht _, by simp only [VR]; exact ⟨_, rfl, rfl⟩, hi, Stp.refl _ _ _⟩
      · rename_i u1 u2 pt b off ht
        cases h
        simp only [VR] at hp
        obtain ⟨l, hl, rfl⟩ := hp
        exact ⟨_, w, run_unsafeString_zero ht _, by simp only [VR]; exact ⟨_, rfl, rfl⟩, hi, Stp.refl _ _ _⟩
      · cases h
    · rename_i h0
      rw [Nat.beq_eq] at h0
      split at h
      · rename_i u1 u2 pt b off ht
        split at h
        · rename_i u3 u4 u cells e hu hb
          rw [ite_cond] at h
          split at h
          · rename_i hc
            simp only [Bool.and_eq_true, Nat.beq_eq, Nat.ble_eq, lenN_eq] at hc
            obtain ⟨rfl, hc1, hle, h63⟩ := hc
            split at h
            · rename_i s' hs
              cases h
              simp only [VR] at hp
              obtain ⟨l, hl, rfl⟩ := hp
              rw [takeN_eq, dropN_eq] at hs
              obtain ⟨k1, k2, k3⟩ := bytes_of hs
              have hsl : s.length = k := by grind
              obtain ⟨c, fr, hh1, hh2, hh3, hh4, hh5⟩ := hi.row hb hl
              obtain ⟨ys, hyl, hys, hcell⟩ := hi.piece hb hl off k hle
              have hbt : ∀ n ∈ s, (UInt8.ofNat n).toNat = n := fun n hn => by
                grind [UInt8.toNat_ofNat']
              have hlen : (s.map UInt8.ofNat).length = k := by grind
              have r := run_unsafeString_at (P := P) (w := w) (ty := ty) ht hu hc1 l.blk (l.sh + off) c.size (by simp [World.shape?, hh1]) (s.map UInt8.ofNat) (by grind) (by rw [hlen]; omega) (by rw [hlen]; omega)
                (fun j x hx => by
                  rw [List.getElem?_map] at hx
                  cases hj : s[j]? with
                  | none => grind
                  | some m =>
                    rw [hj] at hx
                    cases hx
                    have h1 := k3 j m hj
                    obtain ⟨y, hy, hvy⟩ := hys.get h1
                    grind [VR])
              rw [hlen] at r
              have hne : ¬ k = 0 := h0
              have hw : ∃ fr', (w.freeze ⟨l.blk, l.sh + off, none⟩ k).heap[l.blk]? = some (.cells c e fr') := by
                unfold World.freeze
                grind
              obtain ⟨fr', hw⟩ := hw
              have hoth : ∀ r, r ≠ l.blk → (w.freeze ⟨l.blk, l.sh + off, none⟩ k).heap[r]? = w.heap[r]? := fun r hr => by
                unfold World.freeze
                grind
              obtain ⟨i2, s2⟩ := hi.change2 hb hl rfl (o' := .row cells e true) hw ⟨c, fr', rfl, hh2, hh3, hh4, fun h => by cases h⟩ hoth (by unfold World.freeze; rw [if_neg hne]; simp) (by unfold World.freeze; rw [if_neg hne]) (by unfold World.freeze; rw [if_neg hne]) (by unfold World.freeze; rw [if_neg hne]; exact ⟨rfl, Nat.le_refl _⟩)
              refine ⟨_, _, r, ?_, i2, s2⟩
              simp only [VR]
              refine ⟨_, rfl, ?_⟩
              unfold strRel
              simp only [List.map_map]
              conv => rhs; rw [← List.map_id s]
              exact List.map_congr_left fun n hn => hbt n hn
            · cases h
          · cases h
        · cases h
      · cases h
  · cases h
theorem bytes_sound (hi : Inv ρ σ w) {src dst : TypeId} {x v : AV} {y : Value} {σ' : AHeap} (h : bytesA P σ src dst x = .val v σ') (hx : VR ρ x y) :
    ∃ z w' ρ', (convert src dst y).run P w = .ok z w' ∧ VR ρ' v z ∧ Inv ρ' σ' w' ∧ Stp ρ σ w ρ' σ' w' := by
  unfold bytesA at h
  split at h
  · rename_i e s hs hd
    split at h
    · rename_i he
      rw [ite_cond] at h
      split at h
      · rename_i hc1
        cases h
        simp only [VR] at hx
        obtain ⟨bs, rfl, hs'⟩ := hx
        have hcap : bs.size ≤ grownCap w bs.size 0 e := grownCap_ge _ _ _ _
        have hsz : (Lib.bytesCells w e bs).size = grownCap w bs.size 0 e := by
          unfold Lib.bytesCells
          simp_all
        have hlen : lenN s = bs.size := strRel_size hs'
        have hlist : (mapN (fun c => AV.int .u8 (Int.ofNat c)) s).length = bs.size := by rw [mapN_eq, List.length_map, ← lenN_eq, hlen]
        have ho : ObjR ρ ⟨w.heap.size, 0, grownCap w bs.size 0 e⟩ (.row (mapN (fun c => AV.int .u8 (Int.ofNat c)) s) e true) (.cells (Lib.bytesCells w e bs) e ((Lib.bytesCells w e bs).size, (Lib.bytesCells w e bs).size + 1)) := by
          refine ⟨_, _, rfl, by simp [hsz], by simp_all, fun i v hv => ?_, fun h => by cases h⟩
          rw [mapN_eq, List.getElem?_map] at hv
          cases hsi : s[i]? with
          | none => simp_all
          | some m =>
            rw [hsi] at hv
            cases hv
            have hbi : (bs.data.toList.map UInt8.toNat)[i]? = some m := by unfold strRel at hs'; rw [hs']; exact hsi
            rw [List.getElem?_map] at hbi
            cases hq : bs.data.toList[i]? with
            | none => simp_all
            | some b =>
              rw [hq] at hbi
              cases hbi
              have hq' : bs.data[i]? = some b := by simp_all
              have hlt : i < bs.data.size := (Array.getElem?_eq_some_iff.1 hq').1
              refine ⟨.int .u8 b.toNat, ?_, by simp only [VR]; rfl⟩
              unfold Lib.bytesCells
              grind
        have hi1 := hi.drew
        obtain ⟨i2, s2⟩ := hi1.alloc (l := ⟨w.heap.size, 0, grownCap w bs.size 0 e⟩) (x := .cells (Lib.bytesCells w e bs) e ((Lib.bytesCells w e bs).size, (Lib.bytesCells w e bs).size + 1)) rfl ho
        have hw : (w.drew.alloc (.cells (Lib.bytesCells w e bs) e ((Lib.bytesCells w e bs).size, (Lib.bytesCells w e bs).size + 1))) = Lib.bytesWorld w e bs := by
          unfold Lib.bytesWorld World.freeze
          rw [if_neg (by omega)]
          have : ∀ (h : Array Obj) (a b : Obj) (f : Obj → Obj), f a = b → (h.push a).modify h.size f = h.push b := fun h a b f e => by
            grind
          simp only [World.alloc, World.drew]
          simp_all
        rw [hw] at i2 s2
        refine ⟨_, _, _, Lib.run_convert_string_bytes w src dst e bs hs hd he, ?_, i2, (Stp.drew ρ σ w).trans s2⟩
        simp only [VR]
        refine ⟨_, Ren.with_same _ _ _, .inl ⟨grownCap w bs.size 0 e, by rw [hlen], by rw [hlen]; exact hcap, by simp⟩⟩
      · cases h
    · cases h
  · cases h
theorem bytesA_pan (P : Program) (σ : AHeap) (src dst : TypeId) (x : AV) (v : AV) (σ' : AHeap) : bytesA P σ src dst x ≠ .pan v σ' := by
  unfold bytesA
  grind
theorem bytesA_val (P : Program) (σ : AHeap) (src dst : TypeId) (x : AV) : ∀ f args σ', bytesA P σ src dst x ≠ .enter f args σ' ∧ bytesA P σ src dst x ≠ .round f args σ' ∧ bytesA P σ src dst x ≠ .skip σ' := by
  intro f args σ'
  unfold bytesA
  grind
end
section
variable {P : Program} {ρ : Ren} {σ : AHeap} {w : World}
theorem eqLeaf_same {x y : AV} {a c : Value} (h : eqLeaf x y = some true) (hx : VR ρ x a) (hy : VR ρ y c) (n : Nat) : Instr.sameBits n a c = true := by
  unfold eqLeaf at h
  split at h
  · simp only [VR] at hx hy
    subst hx; subst hy
    simp only [Option.some.injEq, cond_beq] at h
    simp only [Instr.sameBits, h]
  · rename_i j a' k b'
    simp only [ite_cond] at h
    split at h
    · rename_i hk
      have := eqK_eq hk
      subst this
      simp only [Option.some.injEq, eqI_eq, decide_eq_true_eq] at h
      grind [VR, Instr.sameBits]
    · cases h
  · simp only [VR] at hx hy
    obtain ⟨p, rfl, hp⟩ := hx
    obtain ⟨q, rfl, hq⟩ := hy
    grind [strRel_eq, Instr.sameBits, beq_toListBytes]
  · cases h
theorem beqCells_same : ∀ {xs ys : List AV} {as cs : List Value}, beqCells xs ys = true → VRs ρ xs as → VRs ρ ys cs → ∀ n, as.length = cs.length ∧ ((as.zip cs).all fun (x, y) => Instr.sameBits n x y) = true
  | [], [], as, cs, _, hx, hy, n => by rw [hx.nil_inv, hy.nil_inv]; simp
  | [], y :: ys, as, cs, h, hx, hy, n => by cases h
  | x :: xs, [], as, cs, h, hx, hy, n => by cases h
  | x :: xs, y :: ys, as, cs, h, hx, hy, n => by
    obtain ⟨a, as', rfl, h1, h2⟩ := hx.cons_inv
    obtain ⟨c, cs', rfl, h3, h4⟩ := hy.cons_inv
    have h' : (match eqLeaf x y with | some true => beqCells xs ys | _ => false) = true := h
    split at h'
    · rename_i he
      obtain ⟨g1, g2⟩ := beqCells_same h' h2 h4 n
      refine ⟨by simp [g1], ?_⟩
      simp only [List.zip_cons_cons, List.all_cons, Bool.and_eq_true]
      exact ⟨eqLeaf_same he h1 h3 n, g2⟩
    · cases h'
theorem sameKey_same {x y : AV} {a c : Value} (h : sameKey x y = true) (hx : VR ρ x a) (hy : VR ρ y c) (n : Nat) : Instr.sameBits (n + 1) a c = true := by
  unfold sameKey at h
  split at h
  · simp only [VR] at hx hy
    obtain ⟨as, rfl, hx⟩ := hx
    obtain ⟨cs, rfl, hy⟩ := hy
    obtain ⟨g1, g2⟩ := beqCells_same h hx hy n
    simp only [Instr.sameBits, Bool.and_eq_true, beq_iff_eq]
    simp_all
  grind [eqLeaf_same]
theorem setEnt_eq (e : AEnt) (es : List AEnt) (i : Nat) : setEnt e es i = es.set i e := setNth_eq _ _ _
theorem delEnt_eq : ∀ (es : List AEnt) (i : Nat), delEnt es i = es.eraseIdx i
  | [], i => rfl
  | e :: es, 0 => rfl
  | e :: es, i + 1 => congrArg (e :: ·) (delEnt_eq es i)
theorem Inv.setMap (hi : Inv ρ σ w) {b : Pos} {l : Loc} {es es' : List AEnt} {clock clock' : Nat} {ys : Array MapEntry} (hb : σ.m.get b = some (.map es clock)) (hl : ρ b = some l) (he : EntR ρ es' ys.toList) :
    ∃ w', (setObj l.blk (.map ys clock')).run P w = .ok () w' ∧ Inv ρ (σ.setObj b (.map es' clock')) w' ∧ Stp ρ σ w ρ (σ.setObj b (.map es' clock')) w' := by
  obtain ⟨zs, hh, _⟩ := hi.mapObj hb hl
  refine ⟨{ w with heap := w.heap.setIfInBounds l.blk (.map ys clock') }, by simp [setObj, Sem.run, hh], ?_⟩
  have hlt := hi.blk b l hl
  exact hi.change hb hl rfl rfl (x := .map ys clock') (by simp_all) ⟨ys, rfl, he⟩
    (fun r hr => by grind) (by simp) rfl rfl ⟨rfl, Nat.le_refl _⟩
theorem update_sound (hi : Inv ρ σ w) {t : TypeId} {m k v : AV} {ym yk yv : Value} {σ' : AHeap} (h : updateA P σ t m k v = some σ') (hm : VR ρ m ym) (hk : VR ρ k yk) (hv : VR ρ v yv) :
    ∃ w', (Instr.mapUpdate t ym yk yv).run P w = .ok () w' ∧ Inv ρ σ' w' ∧ Stp ρ σ w ρ σ' w' := by
  unfold updateA at h
  split at h
  · rename_i u1 u2 kt et b hu
    split at h
    · rename_i es clock hb
      simp only [ite_cond] at h
      split at h
      · rename_i hpk
        rw [Bool.and_eq_true] at hpk
        obtain ⟨hp, hsh⟩ := hpk
        simp only [VR] at hm
        obtain ⟨l, hl, rfl⟩ := hm
        obtain ⟨ys, hh, he⟩ := hi.mapObj hb hl
        have hck := checkKey_sound (w := w) hp hsh hk false
        split at h
        · rename_i i u hf
          obtain ⟨r', g1, g2⟩ := find_sound (w := w) hp hk he hf
          cases r' with
          | none => exact g2.elim
          | some q =>
          obtain ⟨j, y⟩ := q
          obtain ⟨rfl, hy⟩ := g2
          rw [nth_eq] at h
          split at h
          · rename_i e hn
            split at h
            · rename_i hs
              cases h
              obtain ⟨ye, hye, e1, e2, e3⟩ := he.get hn
              have hsb := sameKey_same hs e1 hk 9999
              have hye' : ys[i]? = some ye := by simp_all
              have hkts : (Instr.keyThatStays (((ys[i]?).map (·.key)).getD yk) yk).run P w = .ok yk w := by
                simp [Instr.keyThatStays, hye', hsb]
              have hmod : (ys.modify i fun e => { e with key := yk, val := yv }).toList = ys.toList.set i { key := yk, val := yv, born := e.born } := by
                apply List.ext_getElem?
                grind
              obtain ⟨w', r, inv, st⟩ := hi.setMap (P := P) (clock' := clock) (es' := setEnt { key := k, val := v, born := e.born } es i) (ys := ys.modify i fun e => { e with key := yk, val := yv }) hb hl (by
                rw [hmod, setEnt_eq]; exact he.set i hk hv rfl)
              refine ⟨w', ?_, inv, st⟩
              simp only [Instr.mapUpdate, Sem.run_bind, run_underlying hu, Result.andThen_ok, run_getObj_map hh, hck, g1, hkts, r]
            · cases h
          · cases h
        · rename_i hf
          cases h
          obtain ⟨r', g1, g2⟩ := find_sound (w := w) hp hk he hf
          cases r' with
          | some q => exact g2.elim
          | none =>
          obtain ⟨w', r, inv, st⟩ := hi.setMap (P := P) (clock' := clock + 1) (es' := appN es [{ key := k, val := v, born := clock }]) (ys := ys.push { key := yk, val := yv, born := clock }) hb hl (by
            rw [appN_eq, Array.toList_push]; exact he.append ⟨_, [], rfl, hk, hv, rfl, rfl⟩)
          refine ⟨w', ?_, inv, st⟩
          simp only [Instr.mapUpdate, Sem.run_bind, run_underlying hu, Result.andThen_ok, run_getObj_map hh, hck, g1, r]
        · cases h
      · cases h
    · cases h
  · cases h
theorem delete_sound (hi : Inv ρ σ w) {ts : Array TypeId} {ty : TypeId} {m k : AV} {ym yk : Value} {σ' : AHeap} (h : deleteA P σ ts m k = some σ') (hm : VR ρ m ym) (hk : VR ρ k yk) :
    ∃ w', (Builtin.delete_ ts ty #[ym, yk]).run P w = .ok (.tuple #[]) w' ∧ Inv ρ σ' w' ∧ Stp ρ σ w ρ σ' w' := by
  unfold deleteA at h
  split at h
  · rename_i t ht
    split at h
    · rename_i u1 u2 kt et b hu
      split at h
      · rename_i es clock hb
        simp only [ite_cond] at h
        split at h
        · rename_i hpk
          rw [Bool.and_eq_true] at hpk
          obtain ⟨hp, hsh⟩ := hpk
          simp only [VR] at hm
          obtain ⟨l, hl, rfl⟩ := hm
          obtain ⟨ys, hh, he⟩ := hi.mapObj hb hl
          have hck := checkKey_sound (w := w) hp hsh hk ys.isEmpty
          split at h
          · rename_i i u hf
            cases h
            obtain ⟨r', g1, g2⟩ := find_sound (w := w) hp hk he hf
            cases r' with
            | none => exact g2.elim
            | some q =>
            obtain ⟨j, y⟩ := q
            obtain ⟨rfl, hy⟩ := g2
            obtain ⟨w', r, inv, st⟩ := hi.setMap (P := P) (clock' := clock) (es' := delEnt es i) (ys := ys.eraseIdxIfInBounds i) hb hl (by
              rw [Array.toList_eraseIdxIfInBounds, delEnt_eq]; exact he.erase i)
            refine ⟨w', ?_, inv, st⟩
            simp only [Builtin.delete_, ht, List.getElem?_toArray, List.getElem?_cons_zero, List.getElem?_cons_succ, Sem.run_bind, run_underlying hu, Result.andThen_ok, run_getObj_map hh, hck, g1, r, Sem.run_pure]
          · rename_i hf
            cases h
            obtain ⟨r', g1, g2⟩ := find_sound (w := w) hp hk he hf
            cases r' with
            | some q => exact g2.elim
            | none =>
            obtain ⟨w', r, inv, st⟩ := hi.setMap (P := P) (clock' := clock) (es' := es) (ys := ys) hb hl he
            refine ⟨w', ?_, inv, st⟩
            simp only [Builtin.delete_, ht, List.getElem?_toArray, List.getElem?_cons_zero, List.getElem?_cons_succ, Sem.run_bind, run_underlying hu, Result.andThen_ok, run_getObj_map hh, hck, g1, r, Sem.run_pure]
          · cases h
        · cases h
      · cases h
    · cases h
  · cases h
def HR.isVal : HR → Prop
  | .val .. => True
  | .err _ => True
  | _ => False
theorem append_val (P : Program) (σ : AHeap) (ts : Array TypeId) (s x : AV) : (appendA P σ ts s x).isVal := by
  unfold appendA
  simp only [ite_cond, grow]
  repeat' (first | trivial | split)
theorem appendZ_val (P : Program) (σ : AHeap) (ts : Array TypeId) (s x : AV) : (appendZ P σ ts s x).isVal := by
  unfold appendZ
  simp only [ite_cond, grow]
  repeat' (first | trivial | split)
theorem copy_val (P : Program) (σ : AHeap) (ts : Array TypeId) (s x : AV) : (copyA P σ ts s x).isVal := by
  unfold copyA
  simp only [ite_cond]
  repeat' (first | trivial | split)
theorem heavy_sound {ov : Nat → Bool} (hov : ∀ g, ov g = true → OvFact P g) (hi : Inv ρ σ w) {ev : Operand → Option AV} {f : Operand → Value} {o : Oper} {r : HR} (hE : ER ρ ev f o.op) (h : heavyA P ov ev σ o.op = r) (hne : ∀ n, r ≠ .err n) :
    HOut P ρ σ w r ((execOp f o).run P w) := by
  cases ho : o.op with
  | store t x y =>
    rw [ho] at h hE
    simp only [heavyA] at h
    cases hx : ev x with
    | none => grind
    | some a =>
    cases hy : ev y with
    | none => grind
    | some v =>
    rw [hx, hy] at h
    dsimp only at h
    cases hs : storeA P σ t a v with
    | none => grind
    | some σ' =>
      rw [hs] at h
      subst h
      obtain ⟨w', r, inv, st⟩ := store_sound (P := P) hi hs (hE x (by simp [Op.operands]) a hx) (hE y (by simp [Op.operands]) v hy)
      have : (execOp f o).run P w = .ok .skip w' := by grind [execOp, Sem.run_bind, Result.andThen_ok, Sem.run_pure]
      rw [this]
      exact .skip inv st
  | mapUpdate t m k x =>
    rw [ho] at h hE
    simp only [heavyA] at h
    cases hm : ev m with
    | none => grind
    | some a =>
    cases hk : ev k with
    | none => grind
    | some b =>
    cases hx : ev x with
    | none => grind
    | some v =>
    rw [hm, hk, hx] at h
    dsimp only at h
    cases hs : updateA P σ t a b v with
    | none => grind
    | some σ' =>
      rw [hs] at h
      subst h
      obtain ⟨w', r, inv, st⟩ := update_sound (P := P) hi hs (hE m (by simp [Op.operands]) a hm) (hE k (by simp [Op.operands]) b hk) (hE x (by simp [Op.operands]) v hx)
      have : (execOp f o).run P w = .ok .skip w' := by grind [execOp, Sem.run_bind, Result.andThen_ok, Sem.run_pure]
      rw [this]
      exact .skip inv st
  | insert t m k x =>
    rw [ho] at h hE
    simp only [heavyA] at h
    cases hm : ev m with
    | none => grind
    | some a =>
    cases hk : ev k with
    | none => grind
    | some b =>
    cases hx : ev x with
    | none => grind
    | some v =>
    rw [hm, hk, hx] at h
    dsimp only at h
    cases hs : updateA P σ t a b v with
    | none => grind
    | some σ' =>
      rw [hs] at h
      subst h
      obtain ⟨w', r, inv, st⟩ := update_sound (P := P) hi hs (hE m (by simp [Op.operands]) a hm) (hE k (by simp [Op.operands]) b hk) (hE x (by simp [Op.operands]) v hx)
      have : (execOp f o).run P w = .ok .skip w' := by grind [execOp, Sem.run_bind, Result.andThen_ok, Sem.run_pure]
      rw [this]
      exact .skip inv st
  | call c =>
    rw [ho] at h hE
    simp only [heavyA] at h
    split at h
    · rename_i g hcal
      split at h
      · rename_i u1 u2 y args hg ha
        have hE' : ∀ x ∈ c.args.toList, ∀ v, ev x = some v → VR ρ v (f x) := fun x hx => hE x (by grind [Op.operands, Call.operands])
        have := call_out (P := P) (w := w) hov hi h hne (hE g (by simp [Op.operands, Call.operands, hcal]) y hg) (xs := c.args.map f) (by simpa using evs_sound ha hE')
        simpa only [execOp, ho, resolve, hcal] using this
      grind
    · rename_i hcal
      split at h
      · rename_i u1 s x ha
        subst h
        have hE' : ∀ x ∈ c.args.toList, ∀ v, ev x = some v → VR ρ v (f x) := fun x hx => hE x (by simp [Op.operands, Call.operands, hcal]; simpa using hx)
        obtain ⟨ys, rs, e, h1, h2⟩ := (evs_sound ha hE').cons_inv
        obtain ⟨yx, rs', rfl, h3, h4⟩ := h2.cons_inv
        have := h4.nil_inv
        subst this
        have hargs : c.args.map f = #[ys, yx] := by grind
        rw [ite_cond] at hne
        rw [ite_cond]
        split at hne
        · rename_i hc
          rw [if_pos hc]
          have hv := append_val P σ c.argTypes s x
          cases hr : appendA P σ c.argTypes s x with
          | val v σ' =>
            obtain ⟨z, w', ρ', g1, g2, g3, g4⟩ := append_sound (P := P) (ty := o.type) hi hr h1 h3
            have : (execOp f o).run P w = .ok (.value z) w' := by
              simp only [execOp, ho, resolve, hcal, hargs, Sem.run_bind, Sem.run_pure, Result.andThen_ok, invoke, builtin, g1]
            rw [this]
            exact .val g2 g3 g4
          | err n => simp_all
          | _ => rw [hr] at hv; exact hv.elim
        · rename_i hc
          rw [if_neg hc]
          have hv := appendZ_val P σ c.argTypes s x
          cases hr : appendZ P σ c.argTypes s x with
          | val v σ' =>
            obtain ⟨z, w', ρ', g1, g2, g3, g4⟩ := appendZ_sound (P := P) (ty := o.type) hi hr h1 h3
            have : (execOp f o).run P w = .ok (.value z) w' := by
              simp only [execOp, ho, resolve, hcal, hargs, Sem.run_bind, Sem.run_pure, Result.andThen_ok, invoke, builtin, g1]
            rw [this]
            exact .val g2 g3 g4
          | err n => simp_all
          | _ => rw [hr] at hv; exact hv.elim
      grind
    · rename_i hcal
      split at h
      · rename_i u1 s x ha
        have hE' : ∀ x ∈ c.args.toList, ∀ v, ev x = some v → VR ρ v (f x) := fun x hx => hE x (by simp [Op.operands, Call.operands, hcal]; simpa using hx)
        obtain ⟨ys, rs, e, h1, h2⟩ := (evs_sound ha hE').cons_inv
        obtain ⟨yx, rs', rfl, h3, h4⟩ := h2.cons_inv
        have := h4.nil_inv
        subst this
        have hargs : c.args.map f = #[ys, yx] := by grind
        cases hr : deleteA P σ c.argTypes s x with
        | none => grind
        | some σ' =>
          rw [hr] at h
          subst h
          obtain ⟨w', g1, g3, g4⟩ := delete_sound (P := P) (ty := o.type) hi hr h1 h3
          have : (execOp f o).run P w = .ok (.value (.tuple #[])) w' := by
            simp only [execOp, ho, resolve, hcal, hargs, Sem.run_bind, Sem.run_pure, Result.andThen_ok, invoke, builtin, g1]
          rw [this]
          exact .val (by simp only [VR]; simp_all) g3 g4
      grind
    · rename_i hcal
      split at h
      · rename_i u1 s x ha
        subst h
        have hE' : ∀ x ∈ c.args.toList, ∀ v, ev x = some v → VR ρ v (f x) := fun x hx => hE x (by simp [Op.operands, Call.operands, hcal]; simpa using hx)
        obtain ⟨ys, rs, e, h1, h2⟩ := (evs_sound ha hE').cons_inv
        obtain ⟨yx, rs', rfl, h3, h4⟩ := h2.cons_inv
        have := h4.nil_inv
        subst this
        have hargs : c.args.map f = #[ys, yx] := by grind
        have hv := copy_val P σ c.argTypes s x
        cases hr : copyA P σ c.argTypes s x with
        | val v σ' =>
          obtain ⟨z, w', ρ', g1, g2, g3, g4⟩ := copy_sound (P := P) (ty := o.type) hi hr h1 h3
          have : (execOp f o).run P w = .ok (.value z) w' := by
            simp only [execOp, ho, resolve, hcal, hargs, Sem.run_bind, Sem.run_pure, Result.andThen_ok, invoke, builtin, g1]
          rw [this]
          exact .val g2 g3 g4
        | err n => simp_all
        | _ => rw [hr] at hv; exact hv.elim
      grind
    · rename_i hcal
      split at h
      · rename_i u1 x ha
        have hE' : ∀ x ∈ c.args.toList, ∀ v, ev x = some v → VR ρ v (f x) := fun x hx => hE x (by simp [Op.operands, Call.operands, hcal]; simpa using hx)
        obtain ⟨ys, rs, e, h1, h2⟩ := (evs_sound ha hE').cons_inv
        have := h2.nil_inv
        subst this
        have hargs : c.args.map f = #[ys] := by grind
        cases hr : clearA P σ c.argTypes x with
        | none => grind
        | some σ' =>
          rw [hr] at h
          subst h
          obtain ⟨w', g1, g3, g4⟩ := clear_sound (P := P) (ty := o.type) hi hr h1
          have : (execOp f o).run P w = .ok (.value (.tuple #[])) w' := by
            simp only [execOp, ho, resolve, hcal, hargs, Sem.run_bind, Sem.run_pure, Result.andThen_ok, invoke, builtin, g1]
          rw [this]
          exact .val (by simp only [VR]; simp_all) g3 g4
      grind
    · rename_i hcal
      split at h
      · rename_i u1 x ha
        have hE' : ∀ x ∈ c.args.toList, ∀ v, ev x = some v → VR ρ v (f x) := fun x hx => hE x (by simp [Op.operands, Call.operands, hcal]; simpa using hx)
        obtain ⟨ys, rs, e, h1, h2⟩ := (evs_sound ha hE').cons_inv
        have := h2.nil_inv
        subst this
        have hargs : c.args.map f = #[ys] := by grind
        cases hr : dataA x with
        | none => grind
        | some v =>
          rw [hr] at h
          subst h
          obtain ⟨z, g1, g2⟩ := data_sound (P := P) (w := w) (ts := c.argTypes) (ty := o.type) hr h1
          have : (execOp f o).run P w = .ok (.value z) w := by
            simp only [execOp, ho, resolve, hcal, hargs, Sem.run_bind, Sem.run_pure, Result.andThen_ok, invoke, builtin, g1]
          rw [this]
          exact .val g2 hi (Stp.refl _ _ _)
      grind
    · rename_i hcal
      split at h
      · rename_i u1 s x ha
        have hE' : ∀ x ∈ c.args.toList, ∀ v, ev x = some v → VR ρ v (f x) := fun x hx => hE x (by simp [Op.operands, Call.operands, hcal]; simpa using hx)
        obtain ⟨ys, rs, e, h1, h2⟩ := (evs_sound ha hE').cons_inv
        obtain ⟨yx, rs', rfl, h3, h4⟩ := h2.cons_inv
        have := h4.nil_inv
        subst this
        have hargs : c.args.map f = #[ys, yx] := by grind
        cases hr : ustrA P σ c.argTypes[0]? s x with
        | none => grind
        | some q =>
          obtain ⟨q, σ'⟩ := q
          rw [hr] at h
          subst h
          obtain ⟨z, w', g1, g2, g3, g4⟩ := ustr_sound (P := P) (ty := o.type) hi hr h1 h3
          have : (execOp f o).run P w = .ok (.value z) w' := by
            simp only [execOp, ho, resolve, hcal, hargs, Sem.run_bind, Sem.run_pure, Result.andThen_ok, invoke, builtin, g1]
          rw [this]
          exact .val g2 g3 g4
      grind
    grind
  | convert src dst x =>
    rw [ho] at h hE
    simp only [heavyA] at h
    cases hx : ev x with
    | none => grind
    | some a =>
      rw [hx] at h
      dsimp only at h
      cases hr : bytesA P σ src dst a with
      | val v σ' =>
        rw [hr] at h
        subst h
        obtain ⟨z, w', ρ', g1, g2, g3, g4⟩ := bytes_sound (P := P) hi hr (hE x (by simp [Op.operands]) a hx)
        have : (execOp f o).run P w = .ok (.value z) w' := by grind [execOp, Sem.run_bind, Result.andThen_ok, Sem.run_pure]
        rw [this]
        exact .val g2 g3 g4
      | err n => grind
      | skip σ' => exact absurd hr (bytesA_val P σ src dst a 0 [] σ').2.2
      | enter g args σ' => exact absurd hr (bytesA_val P σ src dst a g args σ').1
      | round g args σ' => exact absurd hr (bytesA_val P σ src dst a g args σ').2.1
      | pan q σ' => exact absurd hr (bytesA_pan P σ src dst a q σ')
  | panic x =>
    rw [ho] at h hE
    simp only [heavyA] at h
    split at h
    · rename_i t v hx
      subst h
      have hv := hE x (by simp [Op.operands]) _ hx
      have hv' := hv
      simp only [VR] at hv'
      obtain ⟨y, hf, _⟩ := hv'
      have : (execOp f o).run P w = .halt (.panic (f x)) w := by
        simp only [execOp, ho, hf, Instr.panic, Sem.run_bind]
        rfl
      rw [this]
      exact .pan hv
    grind
  | _ => rw [ho] at h; exact absurd h.symm (hne 16)
end
inductive Ex where
  | normal
  | exit (id : Nat)
  | goto (l : Nat)
  | ret
  | pan (v : AV)
inductive DE where
  | mark (b : Pos)
  | call (f : Nat) (args ca : List AV)
inductive CR where
  | ok (e : Ex) (t : PT AV) (d : List DE) (σ : AHeap)
  | err (n : Nat)
inductive KR where
  | ret (v : AV) (σ : AHeap)
  | pan (v : AV) (σ : AHeap)
  | err (n : Nat)
inductive Kind where
  | pure | read | alloc | heavy
def isMap (P : Program) (t : Option TypeId) : Bool :=
  match t with
  | some t => match P.underlying t with | some (.map _ _) => true | _ => false
  | none => false
def toStr (P : Program) (src dst : TypeId) : Bool :=
  match underF P src, underF P dst with
  | some (.slice _), some .string => true
  | some (.pointer _), some .unsafePointer => true
  | some .unsafePointer, some (.pointer _) => true
  | _, _ => false
def ofStr (P : Program) (src dst : TypeId) : Bool :=
  match underF P src, underF P dst with
  | some .string, some (.slice _) => true
  | _, _ => false
def kindOf (P : Program) : Op → Kind
  | .convert src dst _ => bif toStr P src dst then .read else (bif ofStr P src dst then .heavy else .pure)
  | .load .. | .lookup .. => .read
  | .alloc .. | .box .. | .buildSlice .. | .makeSlice .. | .makeMap .. => .alloc
  | .store .. | .mapUpdate .. | .insert .. => .heavy
  | .call c => match c.callee with
    | .builtin .len => bif isMap P c.argTypes[0]? then .read else .pure
    | .builtin .min | .builtin .max | .builtin .cap => .pure
    | _ => .heavy
  | .defer _ | .panic _ => .heavy
  | _ => .pure
structure ME where
  f : Nat
  args : List AV
  next : Nat
  l : List (Nat × AObj)
  v : AV
  next' : Nat
  l' : List (Nat × AObj)
structure Cx where
  gl : Nat
  ov : Nat → Bool
  fk : Nat → Bool
  tbl : Nat → List AV → Option AV
  laid : List (Nat × List AV)
  mem : List Nat := []
  stop : Nat → List AV → AHeap → Option Nat := fun _ _ _ => none
  ktb : Nat → List AV → AHeap → Option (AV × AHeap) := fun _ _ _ => none
def evalT (G : Cx) (t : PT AV) : Operand → Option AV
  | .tmp k => t.get (posOf k)
  | .const v => ofVal v
  | .global g => bif Nat.ble (Nat.succ g) G.gl then some (.ptr (posOf g) 0) else none
  | .func f => some (.func f [] [])
def opTag : Op → Nat
  | .move .. => 1
  | .assign .. => 2
  | .pick .. => 3
  | .alloc .. => 4
  | .box .. => 5
  | .build .. => 6
  | .buildSlice .. => 7
  | .insert .. => 8
  | .load .. => 9
  | .store .. => 10
  | .ready .. => 11
  | .waits .. => 12
  | .nilCheck .. => 13
  | .binOp .. => 14
  | .unOp .. => 15
  | .convert .. => 16
  | .sliceToArrayPointer .. => 17
  | .makeInterface .. => 18
  | .makeFunc .. => 19
  | .makeMap .. => 20
  | .makeChan .. => 21
  | .makeSlice .. => 22
  | .slice .. => 23
  | .fieldAddr .. => 24
  | .field .. => 25
  | .indexAddr .. => 26
  | .index .. => 27
  | .lookup .. => 28
  | .mapUpdate .. => 29
  | .mapEntry .. => 30
  | .entryStore .. => 31
  | .range .. => 32
  | .next .. => 33
  | .entry .. => 34
  | .typeAssert .. => 35
  | .extract .. => 36
  | .call .. => 37
  | .go .. => 38
  | .defer .. => 39
  | .panic .. => 40
  | .send .. => 41
  | .recv .. => 42
  | .select .. => 43
def opX (P : Program) (G : Cx) (ev : Operand → Option AV) (σ : AHeap) (op : Op) : HR :=
  match kindOf P op with
  | .pure => match pureA P ev op with | some v => .val v σ | none => .err (Nat.add 1000 (opTag op))
  | .read => match readA P ev σ op with | some v => .val v σ | none => .err (Nat.add 2000 (opTag op))
  | .alloc => match allocA P ev op with | some (ob, mk) => .val (mk.of σ.next) (σ.alloc ob) | none => .err (Nat.add 3000 (opTag op))
  | .heavy => heavyA P G.ov ev σ op
def putT (t : PT AV) (n : Nat) (dst : Option Nat) (v : AV) : Option (PT AV) :=
  match dst with
  | none => some t
  | some k => bif Nat.ble (Nat.succ k) n then some (t.put (some v) (posOf k)) else none
def unit : AV := .tuple []
def wantedA (ops : Array Oper) (t : PT AV) (o : Oper) : Option Bool :=
  match o.guard with
  | none => some true
  | some (j, want) => match (ops[j]?).bind (·.dst) with
    | some k => match t.get (posOf k) with
      | some (.bool b) => some (bif b then want else (bif want then false else true))
      | some (.tuple _) => some false
      | _ => none
    | none => some false
abbrev IhC := Code → PT AV → Nat → List DE → Option Pos → AHeap → CR
def putAll (n : Nat) (ks : List Nat) (vs : List AV) (t : PT AV) : Option (PT AV) :=
  List.rec (motive := fun _ => List AV → PT AV → Option (PT AV)) (fun vs t => List.rec (motive := fun _ => Option (PT AV)) (some t) (fun _ _ _ => none) vs)
    (fun k _ ih vs t => List.rec (motive := fun _ => Option (PT AV)) none (fun v r _ => match putT t n (some k) v with | some t' => ih r t' | none => none) vs) ks vs t
def jumpOf : Ex → Option Code
  | .normal => none
  | .ret => some .ret
  | .exit id => some (.exit id)
  | .goto g => some (.goto g)
  | .pan _ => none
def isPan : Ex → Bool
  | .pan _ => true
  | _ => false
def stateOf : Ex → LoopState
  | .normal => .ready
  | _ => .done
def wentOn : Ex → Bool
  | .normal => true
  | _ => false
def roundX (ih : IhC) (l : Pos) (args : List AV) (σ : AHeap) : KR :=
  match σ.m.get l with
  | some (.loop _ _ tmps n params assign body _) =>
    match putAll n params args tmps with
    | some t => match ih assign t n [] (some l) σ with
      | .ok .normal t [] σ₁ => match σ₁.m.get l with
        | some (.loop .ready p tmps n' params assign body' df) =>
          match ih body t n [] (some l) (σ₁.setObj l (.loop .busy p tmps n' params assign body' df)) with
          | .ok e _ [] σ₂ => bif isPan e then .err 67 else match σ₂.m.get l with
            | some (.loop _ _ tmps n params assign body df) => .ret (.bool (wentOn e)) (σ₂.setObj l (.loop (stateOf e) (jumpOf e) tmps n params assign body df))
            | _ => .err 61
          | .err k => .err k
          | _ => .err 62
        | _ => .err 63
      | .err k => .err k
      | _ => .err 64
    | none => .err 65
  | _ => .err 66
def argsT (n : Nat) (args : List AV) : Option (PT AV) :=
  List.rec (motive := fun _ => Nat → PT AV → Option (PT AV)) (fun _ t => some t) (fun v _ ih k t => match putT t n (some k) v with | some t' => ih (Nat.succ k) t' | none => none) args 0 .leaf
def resultA (P : Program) (t : PT AV) (σ : AHeap) : ResultVar → Option AV
  | .tmp k => t.get (posOf k)
  | .cell k ty => match t.get (posOf k) with
    | some (.ptr b off) => match σ.m.get b with
      | some (.row cells _ _) => match aggOf P ty with
        | some (some n) => bif Nat.ble (off + n) (lenN cells) then some (.agg (takeN (dropN cells off) n)) else none
        | some none => nth cells off
        | none => none
      | _ => none
    | _ => none
def resultsA (P : Program) (fn : Func) (t : PT AV) (σ : AHeap) : Option AV :=
  match allSome (resultA P t σ) fn.results.toList with
  | some [v] => some v
  | some vs => some (.tuple vs)
  | none => none
inductive Md where
  | ret
  | pan (v : AV)
  | rcv (v : AV)
def leaveX (P : Program) (G : Cx) (ih : IhC) (d : List DE) : Md → AHeap → Option (Md × AHeap) :=
  List.rec (motive := fun _ => Md → AHeap → Option (Md × AHeap)) (fun md σ => some (md, σ))
    (fun e _ k md σ => match e with
      | .mark b => match σ.m.get b with
        | some .mark => k md (σ.setObj b .dead)
        | _ => none
      | .call _ _ _ => none) d
def endX (P : Program) (G : Cx) (ih : IhC) (fn : Func) (md : Md) (t : PT AV) (d : List DE) (σ : AHeap) : KR :=
  match leaveX P G ih d md σ with
  | some (.ret, σ) => match resultsA P fn t σ with | some v => .ret v σ | none => .err 70
  | some (.pan v, σ) => .pan v σ
  | _ => .err 71
def callC (P : Program) (G : Cx) (ih : IhC) (f : Nat) (args : List AV) (σ : AHeap) : KR :=
  match P.funcs[f]? with
  | some fn => match fn.body, argsT fn.ntmps args with
    | some c, some t => match ih c t fn.ntmps [] none σ with
      | .ok .normal t d σ => endX P G ih fn .ret t d σ
      | .ok .ret t d σ => endX P G ih fn .ret t d σ
      | .ok (.pan v) t d σ => endX P G ih fn (.pan v) t d σ
      | .err k => .err k
      | _ => .err 72
    | _, _ => .err 73
  | none => .err 74
def noPanK (r : KR) : KR :=
  match r with
  | .pan _ _ => .err 69
  | r => r
def flatB : AV → Bool
  | .bool _ | .int _ _ | .str _ | .nilPtr | .nilSlice | .nilMap | .nilFunc | .nilIface => true
  | _ => false
def allFlat (l : List AV) : Bool := List.rec (motive := fun _ => Bool) true (fun v _ r => bif flatB v then r else false) l
def eqFlat (x y : AV) : Bool :=
  match x, y with
  | .bool a, .bool b => bif a then b else (bif b then false else true)
  | .int j a, .int k b => eqK j k && eqI a b
  | .str a, .str b => eqS a b
  | .nilPtr, .nilPtr => true
  | .nilSlice, .nilSlice => true
  | .nilMap, .nilMap => true
  | .nilFunc, .nilFunc => true
  | .nilIface, .nilIface => true
  | _, _ => false
def eqFlats (xs ys : List AV) : Bool :=
  List.rec (motive := fun _ => List AV → Bool) (fun ys => List.rec (motive := fun _ => Bool) true (fun _ _ _ => false) ys)
    (fun x _ ih ys => List.rec (motive := fun _ => Bool) false (fun y r _ => bif eqFlat x y then ih r else false) ys) xs ys
def replN (n : Nat) (v : AV) : List AV := Nat.rec (motive := fun _ => List AV) [] (fun _ l => v :: l) n
def twoBlocks (σ : AHeap) (b : Pos) (o : AObj) (vb : Pos) (o' : AObj) : AHeap := { next := σ.next, m := (PT.leaf.put (some o) b).put (some o') vb }
def forkRes (vb : Pos) (vc : List AV) (ve e sz : Nat) (r : KR) (ok : Cap → Nat → Bool) : Option (Nat × List AV) :=
  match r with
  | .ret (.slice b1 o1 n1 c1) σ1 =>
    match σ1.m.get b1, σ1.m.get vb with
    | some (.row cs1 e1 false), some (.row vc1 ve1 false) =>
      bif ok c1 n1 && ((bif samePos b1 vb then false else true) && (eqFlats vc vc1 && (Nat.beq ve ve1 && (Nat.beq e e1 && (Nat.ble 1 n1 && (Nat.ble (o1 + n1 * sz) (lenN cs1) && allFlat (takeN (dropN cs1 o1) (n1 * sz)))))))) then
        some (n1, takeN (dropN cs1 o1) (n1 * sz))
      else none
    | _, _ => none
  | _ => none
def isUpto (sz : Nat) (c : Cap) (_ : Nat) : Bool :=
  match c with
  | .upto s => Nat.beq s sz
  | _ => false
def isLeast (sz : Nat) (c : Cap) (n : Nat) : Bool :=
  match c with
  | .least a s => Nat.beq s sz && Nat.ble n a
  | _ => false
def forkX (P : Program) (G : Cx) (ih : IhC) (f : Nat) (args : List AV) (σ : AHeap) : KR :=
  match args with
  | [.slice b off n (.upto sz), i, .slice vb voff m (.known mc)] =>
    match σ.m.get b, σ.m.get vb with
    | some (.row cells e false), some (.row vc ve false) =>
      bif (bif samePos b vb then false else true) && (Nat.ble 1 n && (Nat.beq m 1 && (flatB i && (allFlat vc && Nat.ble (off + n * sz) (lenN cells))))) then
        match forkRes vb vc ve e sz (callC P G ih f [.slice b off n (.known n), i, .slice vb voff m (.known mc)] (twoBlocks σ b (.row cells e false) vb (.row vc ve false))) (isUpto sz),
          forkRes vb vc ve e sz (callC P G ih f [.slice b off n (.least (Nat.succ n) sz), i, .slice vb voff m (.known mc)] (twoBlocks σ b (.row (appN (takeN cells (off + n * sz)) (replN sz .any)) e false) vb (.row vc ve false))) (isLeast sz) with
        | some (n1, r1), some (n2, r2) => bif Nat.beq n1 n2 && eqFlats r1 r2 then .ret (.slice σ.next 0 n1 (.upto sz)) ((σ.drop b).alloc (.row r1 e false)) else .err 75
        | _, _ => .err 76
      else .err 77
    | _, _ => .err 78
  | _ => callC P G ih f args σ
def laidGo (gl : Nat) (σ : AHeap) (l : List (Nat × List AV)) : Bool :=
  List.rec (motive := fun _ => Bool) true (fun x _ r => bif Nat.ble (Nat.succ x.1) gl then (match σ.m.get x.1 with
    | some (.row cells _ true) => bif allFlat x.2 then (bif eqFlats cells x.2 then r else false) else false
    | _ => false) else false) l
def beqA (x y : AV) : Bool :=
  match x, y with
  | .agg xs, .agg ys => beqL xs ys
  | x, y => beq1 x y
where
  beqP (p q : Pos) : Bool := Nat.beq p q
  beqC (c d : Cap) : Bool :=
    match c, d with
    | .known a, .known b => Nat.beq a b
    | .upto a, .upto b => Nat.beq a b
    | _, _ => false
  beq1 (x y : AV) : Bool :=
    match x, y with
    | .bool a, .bool b => bif a then b else (bif b then false else true)
    | .int j a, .int k b => eqK j k && eqI a b
    | .str a, .str b => eqS a b
    | .nilPtr, .nilPtr => true
    | .tok a, .tok b => Nat.beq a b
    | .ptr b o, .ptr b' o' => beqP b b' && Nat.beq o o'
    | .nilSlice, .nilSlice => true
    | .slice b o l c, .slice b' o' l' c' => beqP b b' && Nat.beq o o' && Nat.beq l l' && beqC c c'
    | .nilMap, .nilMap => true
    | .map b, .map b' => beqP b b'
    | .nilFunc, .nilFunc => true
    | .nilIface, .nilIface => true
    | .func f [] [], .func g [] [] => Nat.beq f g
    | .func f [] [.ptr b o], .func g [] [.ptr b' o'] => Nat.beq f g && beqP b b' && Nat.beq o o'
    | _, _ => false
  beqL (xs ys : List AV) : Bool :=
    List.rec (motive := fun _ => List AV → Bool) (fun ys => List.rec (motive := fun _ => Bool) true (fun _ _ _ => false) ys)
      (fun x _ ih ys => List.rec (motive := fun _ => Bool) false (fun y r _ => bif beq1 x y then ih r else false) ys) xs ys
def laidPT (l : List (Nat × List AV)) (E : Nat → TypeId) : PT AObj := l.foldl (fun m x => m.put (some (.row x.2 (E x.1) true)) (posOf x.1)) .leaf
def atEnd (args : List AV) : Bool :=
  match args with
  | [.slice _ _ n _, .int _ (.ofNat j), _] => Nat.beq j n
  | _ => false
def forkY (P : Program) (G : Cx) (ih : IhC) (f : Nat) (args : List AV) (σ : AHeap) : KR := bif atEnd args then callC P G ih f args σ else forkX P G ih f args σ
def callX (P : Program) (G : Cx) (ih : IhC) (f : Nat) (args : List AV) (σ : AHeap) : KR :=
  match G.ktb f args σ with
  | some r => .ret r.1 r.2
  | none => match G.tbl f args with
  | some v => bif allFlat args && (flatB v && laidGo G.gl σ G.laid) then .ret v σ else .err 79
  | none => match G.stop f args σ with
      | some c => .err c
      | none => bif G.fk f then noPanK (forkY P G ih f args σ) else callC P G ih f args σ
def effX (P : Program) (G : Cx) (ih : IhC) (r : HR) : KR :=
  match r with
  | .val v σ => .ret v σ
  | .skip σ => .ret unit σ
  | .enter f args σ => callX P G ih f args σ
  | .round l args σ => roundX ih l args σ
  | .pan v σ => .pan v σ
  | .err e => .err e
def panX (pn : Bool) (v : AV) (t : PT AV) (σ : AHeap) : CR := bif pn then .ok (.pan v) t [] σ else .err 69
def oneX (P : Program) (G : Cx) (ih : IhC) (pn : Bool) (ops : Array Oper) (n : Nat) (o : Oper) (t : PT AV) (σ : AHeap) (k : PT AV → AHeap → CR) : CR :=
  match wantedA ops t o with
  | some true => match effX P G ih (opX P G (evalT G t) σ o.op) with
    | .ret v σ' => match putT t n o.dst v with | some t' => k t' σ' | none => .err 80
    | .pan v σ' => panX pn v t σ'
    | .err e => .err e
  | some false => match putT t n o.dst unit with | some t' => k t' σ | none => .err 84
  | none => .err 85
def opsX (P : Program) (G : Cx) (ih : IhC) (ops : Array Oper) (n : Nat) (d : List DE) (l : List Oper) : PT AV → AHeap → CR :=
  List.rec (motive := fun _ => PT AV → AHeap → CR) (fun t σ => .ok .normal t d σ)
    (fun o _ k t σ => oneX P G ih true ops n o t σ k) l
def anc (A : Array Nat) (i j : Nat) : Bool := (A.getD i 0).testBit j
def waits (ops : Array Oper) (i j : Nat) : Bool := ((ops[i]?).map fun o => o.after.any fun e => Region.binds .any e && e.on == j).getD false
def heavyK : Kind → Bool
  | .heavy => true
  | _ => false
def looksK : Kind → Bool
  | .read | .alloc => true
  | _ => false
def isHeavy (P : Program) (ops : Array Oper) (i : Nat) : Bool := match (ops[i]?).map fun o => kindOf P o.op with | some k => heavyK k | none => false
def looksMem (P : Program) (ops : Array Oper) (i : Nat) : Bool := match (ops[i]?).map fun o => kindOf P o.op with | some k => looksK k | none => false
def slotsOf (ops : Array Oper) (o : Oper) : List Nat :=
  (o.op.operands.toList.filterMap fun | .tmp k => some k | _ => none) ++ (match o.guard with | some (j, _) => ((ops[j]?).bind (·.dst)).toList | none => [])
def dstOf (ops : Array Oper) (i : Nat) : Option Nat := (ops[i]?).bind (·.dst)
def bit (i : Nat) : Nat := Nat.shiftLeft 1 i
def hasB (m i : Nat) : Bool := Nat.beq (Nat.land (Nat.shiftRight m i) 1) 1
def subB (m k : Nat) : Bool := Nat.beq (Nat.land m k) m
def maskOf (l : List Nat) : Nat := List.rec (motive := fun _ => Nat) 0 (fun i _ r => Nat.lor (bit i) r) l
structure Row where
  w : Nat
  h : Bool
  k : Bool
  d : Option Nat
  dm : Nat
  s : Nat
def rowF (P : Program) (ops : Array Oper) (o : Oper) : Row :=
  { w := maskOf (o.after.toList.filterMap fun e => if Region.binds .any e = true then some e.on else none), h := heavyK (kindOf P o.op), k := looksK (kindOf P o.op), d := o.dst, dm := maskOf o.dst.toList, s := maskOf (slotsOf ops o) }
structure RA where
  r : Row
  a : Nat
def orAll (L : List RA) : Nat → Nat :=
  List.rec (motive := fun _ => Nat → Nat) (fun _ => 0) (fun x _ ih w => Nat.lor (Bool.rec (motive := fun _ => Nat) 0 x.a (Nat.beq (Nat.land w 1) 1)) (ih (Nat.shiftRight w 1))) L
def rasGo (rows : List Row) : List RA → List RA :=
  List.rec (motive := fun _ => List RA → List RA) (fun L => L) (fun r _ ih L => ih (appN L [⟨r, Nat.lor r.w (orAll L r.w)⟩])) rows
def rasOf (P : Program) (ops : Array Oper) : List RA := rasGo (mapN (rowF P ops) ops.toList) []
def allI {α : Type} (f : Nat → α → Bool) (l : List α) : Nat → Bool := List.rec (motive := fun _ => Nat → Bool) (fun _ => true) (fun x _ ih i => Bool.rec (motive := fun _ => Bool) false (ih (Nat.succ i)) (f i x)) l
def pickI {α : Type} (f : Nat → α → Bool) (l : List α) : Nat → Option Nat := List.rec (motive := fun _ => Nat → Option Nat) (fun _ => none) (fun x _ ih i => Bool.rec (motive := fun _ => Option Nat) (ih (Nat.succ i)) (some i) (f i x)) l
def keepI {α : Type} (f : Nat → α → Bool) (l : List α) : Nat → List Nat := List.rec (motive := fun _ => Nat → List Nat) (fun _ => []) (fun x _ ih i => Bool.rec (motive := fun _ => List Nat) (ih (Nat.succ i)) (i :: ih (Nat.succ i)) (f i x)) l
def pairF (i : Nat) (x : RA) (j : Nat) (y : RA) : Bool :=
  Option.rec (motive := fun _ => Bool) true (fun k => bif (bif hasB x.r.dm k then Nat.beq j i else true) then (bif hasB x.r.s k then (bif hasB x.a j then true else (bif x.r.k then false else (bif Nat.beq j i then true else hasB y.a i))) else true) else false) y.r.d
def pairQ (i : Nat) (x : RA) (j : Nat) (y : RA) : Bool := Bool.rec (motive := fun _ => Bool) (pairF i x j y) true (Nat.beq (Nat.land (Nat.lor x.r.dm x.r.s) y.r.dm) 0)
def shapeF (L : List RA) (n : Nat) : Bool :=
  allI (fun i x => bif Nat.blt x.r.w (bit n) then (bif (bif x.r.k then x.r.d.isSome else true) then (bif subB x.a (Nat.lor x.r.w (orAll L x.r.w)) then allI (pairQ i x) L 0 else false) else false) else false) L 0
def planF (L : List RA) (fuel : Nat) : Nat → List (Nat × List Nat) :=
  Nat.rec (motive := fun _ => Nat → List (Nat × List Nat)) (fun _ => [])
    (fun _ ih D => Option.rec (motive := fun _ => List (Nat × List Nat))
      (Option.rec (motive := fun _ => List (Nat × List Nat)) [] (fun i => (i, Option.rec (motive := fun _ => List Nat) [] (fun x => keepI (fun j y => bif hasB D j then (bif y.r.k then (bif hasB x.a j then false else true) else false) else false) L 0) (nth L i)) :: ih (Nat.lor D (bit i)))
        (pickI (fun i x => Bool.rec (motive := fun _ => Bool) (subB x.r.w D) false (hasB D i)) L 0))
      (fun i => (i, []) :: ih (Nat.lor D (bit i))) (pickI (fun i x => Bool.rec (motive := fun _ => Bool) (Bool.rec (motive := fun _ => Bool) (subB x.r.w D) false x.r.h) false (hasB D i)) L 0)) fuel
def headF (L : List RA) (i : Nat) (rc : List Nat) (D : Nat) (x : RA) : Bool :=
  bif hasB D i then false else (bif subB x.r.w D then (bif x.r.h then allI (fun j y => bif hasB D j then (bif hasB x.a j then true else (bif y.r.k then hasB (maskOf rc) j else true)) else (bif Nat.beq j i then true else (bif subB y.r.w D then false else true))) L 0 else true) else false)
def checkF (L : List RA) (n : Nat) (p : List (Nat × List Nat)) : Nat → Bool :=
  List.rec (motive := fun _ => Nat → Bool) (fun D => Nat.beq D (Nat.sub (bit n) 1))
    (fun p _ ih D => Option.rec (motive := fun _ => Bool) false (fun x => bif headF L p.1 p.2 D x then ih (Nat.lor D (bit p.1)) else false) (nth L p.1)) p
def plan (P : Program) (ops : Array Oper) : List (Nat × List Nat) := planF (rasOf P ops) ops.size 0
def fastOK (P : Program) (ops : Array Oper) : Bool := bif shapeF (rasOf P ops) ops.size then checkF (rasOf P ops) ops.size (plan P ops) 0 else false
def stillX (P : Program) (G : Cx) (ops : Array Oper) (t : PT AV) (σ : AHeap) (i : Nat) : Bool :=
  match ops[i]? with
  | some o => match wantedA ops t o with
    | some true => match o.dst with
      | some k => match t.get (posOf k) with
        | some v => match kindOf P o.op with
          | .read => match readA P (evalT G t) σ o.op with | some u => beqA u v | none => false
          | .alloc => match allocA P (evalT G t) o.op, v with
            | some (.row cs e false, .ptr), .ptr b 0 => match σ.m.get b with | some (.row cs' e' false) => Nat.beq e e' && beqA.beqL cs cs' | _ => false
            | some (.row cs e false, .slice n c), .slice b 0 n' (.known c') => match σ.m.get b with | some (.row cs' e' false) => Nat.beq e e' && beqA.beqL cs cs' && Nat.beq n n' && Nat.beq c c' | _ => false
            | _, _ => false
          | _ => false
        | none => false
      | none => false
    | some false => true
    | none => false
  | none => false
def stillAll (P : Program) (G : Cx) (ops : Array Oper) (t : PT AV) (σ : AHeap) (l : List Nat) : Bool :=
  List.rec (motive := fun _ => Bool) true (fun i _ r => bif stillX P G ops t σ i then r else false) l
def planX (P : Program) (G : Cx) (ih : IhC) (ops : Array Oper) (n : Nat) (d : List DE) (l : List (Nat × List Nat)) : PT AV → AHeap → CR :=
  List.rec (motive := fun _ => PT AV → AHeap → CR) (fun t σ => .ok .normal t d σ)
    (fun p _ k t σ => match ops[p.1]? with
      | some o => oneX P G ih false ops n o t σ (fun t' σ' => bif stillAll P G ops t' σ' p.2 then k t' σ' else .err 86)
      | none => .err 87) l
def drawX (P : Program) (G : Cx) (ih : IhC) (ops : Array Oper) (n : Nat) (d : List DE) (t : PT AV) (σ : AHeap) : CR :=
  bif fastOK P ops then planX P G ih ops n d (plan P ops) t σ else .err 88
def condX (c : Option AV) (x y : CR) : CR :=
  match c with
  | some (.bool true) => x
  | some (.bool false) => y
  | _ => .err 90
def seqX (r : CR) (k : PT AV → List DE → AHeap → CR) : CR :=
  match r with
  | .ok .normal t d σ => k t d σ
  | r => r
def blockX (id : Nat) (r : CR) : CR :=
  match r with
  | .ok (.exit j) t d σ => bif Nat.beq j id then .ok .normal t d σ else .ok (.exit j) t d σ
  | r => r
def scopeX (r : CR) : CR :=
  match r with
  | .ok (.goto _) _ _ _ => .err 98
  | r => r
def marksX (ro : Option Pos) (d : List DE) (σ : AHeap) : Option (Pos × AHeap × List DE) :=
  match ro with
  | none => some (σ.next, σ.alloc .mark, DE.mark σ.next :: d)
  | some l => match σ.m.get l with
    | some (.loop _ _ _ _ _ _ _ df) => some (df, σ, d)
    | _ => none
def afterX (ih : IhC) (l : Pos) (t : PT AV) (n : Nat) (d : List DE) (ro : Option Pos) (σ : AHeap) : CR :=
  match σ.m.get l with
  | some (.loop st p tmps n' ps as bd df) =>
    match st with
    | .busy => .err 91
    | _ => match p with
      | none => .ok .normal t d (σ.setObj l (.loop .exhausted none tmps n' ps as bd df))
      | some c => ih c t n d ro (σ.setObj l (.loop .exhausted (some c) tmps n' ps as bd df))
  | _ => .err 92
def rangeX (P : Program) (G : Cx) (ih : IhC) (g : Operand) (ps : Array Tmp) (assign body : Code) (t : PT AV) (n : Nat) (d : List DE) (ro : Option Pos) (σ : AHeap) : CR :=
  match marksX ro d σ with
  | some (df, σ₁, d₁) =>
    match evalT G t g with
    | some (.func f fi ca) => bif isGo P f then
        match callX P G ih f (appN fi (.yield σ₁.next :: ca)) (σ₁.alloc (.loop .ready none t n ps.toList assign body df)) with
        | .ret _ σ₃ => afterX ih σ₁.next t n d₁ ro σ₃
        | .pan _ _ => .err 89
        | .err e => .err e
      else .err 93
    | _ => .err 94
  | none => .err 95
def isDef (o : Oper) : Bool :=
  match o.op with
  | .defer _ => true
  | _ => false
def hasDef (ops : List Oper) : Bool := ops.any isDef
def fixD (d : List DE) (r : CR) : CR :=
  match r with
  | .ok (.pan v) t _ σ => .ok (.pan v) t d σ
  | r => r
def stepX (P : Program) (G : Cx) (ih : IhC) (c : Code) (t : PT AV) (n : Nat) (d : List DE) (ro : Option Pos) (σ : AHeap) : CR :=
  match c with
  | .skip | .label _ => .ok .normal t d σ
  | .region _ ops draw => bif draw then drawX P G ih ops n d t σ else bif hasDef ops.toList then .err 96 else fixD d (opsX P G ih ops n d ops.toList t σ)
  | .seq a b => seqX (ih a t n d ro σ) (fun t d σ => ih b t n d ro σ)
  | .cond c a b => condX (evalT G t c) (ih a t n d ro σ) (ih b t n d ro σ)
  | .block id b => blockX id (ih b t n d ro σ)
  | .scope b => scopeX (ih b t n d ro σ)
  | .loop b => seqX (ih b t n d ro σ) (fun t d σ => ih (.loop b) t n d ro σ)
  | .exit id => .ok (.exit id) t d σ
  | .ret => .ok .ret t d σ
  | .rangeFunc g ps assign body => rangeX P G ih g ps assign body t n d ro σ
  | _ => .err 99
def runX (P : Program) (G : Cx) (fuel : Nat) : IhC := Nat.rec (motive := fun _ => IhC) (fun _ _ _ _ _ _ => .err 100) (fun _ ih => stepX P G ih) fuel
def evalCall (P : Program) (G : Cx) (fuel : Nat) (f : Nat) (args : List AV) (σ : AHeap) : KR := callX P G (runX P G fuel) f args σ
def fenc : Option Nat → Fence
  | none => Fence.wide
  | some l => Fence.wide.inRound l
theorem fenc_fn (rl : Option Nat) (f : FuncId) : (fenc rl).fn f := by cases rl <;> trivial
theorem fenc_depth (rl : Option Nat) : (fenc rl).depth = none := by cases rl <;> rfl
theorem fenc_round (rl : Option Nat) : (fenc rl).round = rl := by cases rl <;> rfl
theorem fenc_deep (rl : Option Nat) (m : Nat) : (fenc rl).depth.isSome = true → 1 ≤ m := by rw [fenc_depth]; intro h; cases h
theorem fenc_calls {m : Nat} {P : Program} {f : FuncId} {args : Array Value} {w : World} {R : Ending → World → Prop} (rl : Option Nat) (h : CallsIn Fence.wide m P f args w R) : CallsIn (fenc rl) m P f args w R := by
  cases rl with
  | none => exact h
  | some l => exact h.inRound l
theorem fenc_in (rl : Option Nat) (l : Nat) : (fenc rl).inRound l = fenc (some l) := by cases rl <;> rfl
def DR (ρ : Ren) : List DE → List Deferred → Prop
  | [], ds => ds = []
  | .mark b :: d, ds => ∃ l r, ρ b = some l ∧ ds = { target := .collected l.blk, args := #[] } :: r ∧ DR ρ d r
  | .call f args ca :: d, ds => ∃ (xs cs : Array Value) (r : List Deferred), ds = { target := .fn (.func f) cs, args := xs } :: r ∧ VRs ρ args xs.toList ∧ VRs ρ ca cs.toList ∧ DR ρ d r
theorem DR.mono {ρ ρ' : Ren} (h : ρ.le ρ') : ∀ {d : List DE} {ds : List Deferred}, DR ρ d ds → DR ρ' d ds
  | [], ds, hd => hd
  | .mark b :: d, ds, hd => let ⟨l, r, h1, h2, h3⟩ := hd; ⟨l, r, h _ _ h1, h2, DR.mono h h3⟩
  | .call f args ca :: d, ds, hd => let ⟨xs, cs, r, h1, h2, h3, h4⟩ := hd; ⟨xs, cs, r, h1, VRs.mono h _ _ h2, VRs.mono h _ _ h3, DR.mono h h4⟩
def exOf : Ex → Exit
  | .normal => .normal
  | .exit i => .exit i
  | .goto i => .goto i
  | .ret => .ret
  | .pan _ => .normal
def ExR (ρ : Ren) : Ex → Exit → Prop
  | .pan v, E => ∃ x, E = .panic [{ v := x, recovered := false }] ∧ VR ρ v x
  | .normal, E => E = .normal
  | .exit i, E => E = .exit i
  | .goto i, E => E = .goto i
  | .ret, E => E = .ret
def Qx (Q : Exit → Act → World → Prop) (ρ : Ren) (e : Ex) (a : Act) (w : World) : Prop := ∀ E, ExR ρ e E → Q E a w
def EndR (ρ : Ren) : KR → Ending → Prop
  | .ret v _, e => ∃ x, e = .returned x ∧ VR ρ v x
  | .pan v _, e => ∃ x, e = .panicked [{ v := x, recovered := false }] ∧ VR ρ v x
  | .err _, _ => False
def KR.heap : KR → AHeap
  | .ret _ σ => σ
  | .pan _ σ => σ
  | .err _ => ⟨0, .leaf⟩
def RO (ρ : Ren) : Option Pos → Option Nat → Prop
  | none, none => True
  | some b, some l => ∃ loc, ρ b = some loc ∧ loc.blk = l
  | _, _ => False
theorem RO.mono {ρ ρ' : Ren} (h : ρ.le ρ') : ∀ {ro : Option Pos} {rl : Option Nat}, RO ρ ro rl → RO ρ' ro rl
  | none, none, _ => trivial
  | some _, some _, ⟨loc, h1, h2⟩ => ⟨loc, h _ _ h1, h2⟩
def GR (ρ : Ren) (G : Cx) : Prop := ∀ g, g < G.gl → ∃ c, ρ (posOf g) = some ⟨g, 0, c⟩
theorem GR.mono {ρ ρ' : Ren} {G : Cx} (h : ρ.le ρ') (hg : GR ρ G) : GR ρ' G := fun g hlt => let ⟨c, hc⟩ := hg g hlt; ⟨c, h _ _ hc⟩
structure Keeps (w w' : World) : Prop where
  os : w'.os = w.os
  out : w'.output = w.output ∧ w.drawn ≤ w'.drawn
  tape : w'.tape = w.tape
  size : w.heap.size ≤ w'.heap.size
  same : ∀ r : Nat, r < w.heap.size → w'.heap[r]? = w.heap[r]?
def LaidIs (w : World) (x : Nat × List AV) : Prop := ∃ c e fr, w.heap[x.1]? = some (.cells c e fr) ∧ x.2.length ≤ c.size ∧ ∀ (i : Nat) (v : AV), x.2[i]? = some v → ∃ y, c[i]? = some y ∧ VR (fun _ => none) v y
def Known (P : Program) (gl : Nat) (laid : List (Nat × List AV)) (f : Nat) (args : List AV) (v : AV) : Prop :=
  ∀ (w : World) (xs : Array Value), gl ≤ w.heap.size → OldW w → (∀ x ∈ laid, LaidIs w x) → VRs (fun _ => none) args xs.toList → Calls P f xs w fun e w' => ∃ x, e = .returned x ∧ VR (fun _ => none) v x ∧ Keeps w w'
structure CxOK (P : Program) (G : Cx) : Prop where
  ov : ∀ g, G.ov g = true → OvFact P g
  tbl : ∀ f args v, G.tbl f args = some v → Known P G.gl G.laid f args v
  mem : ∀ e ∈ G.mem, True
  ktb : ∀ f args σ v σ', G.ktb f args σ = some (v, σ') → ∀ (ρ : Ren) (w : World) (xs : Array Value), Inv ρ σ w → GR ρ G → VRs ρ args xs.toList → Calls P f xs w fun e w' => ∃ x ρ', e = .returned x ∧ VR ρ' v x ∧ Inv ρ' σ' w' ∧ Stp ρ σ w ρ' σ' w'
structure Sound (P : Program) (G : Cx) (ih : IhC) : Prop where
  cx : CxOK P G
  run : ∀ (c : Code) (t : PT AV) (n : Nat) (d : List DE) (ro : Option Pos) (σ : AHeap) (e : Ex) (t' : PT AV) (d' : List DE) (σ' : AHeap), ih c t n d ro σ = .ok e t' d' σ' →
    ∀ (ρ : Ren) (w : World) (a : Act) (rl : Option Nat) (m : Nat) (Q : Exit → Act → World → Prop), Inv ρ σ w → GR ρ G → TR ρ t n a.tmps → DR ρ d a.defers → RO ρ ro rl →
      (∀ (ρ' : Ren) (w' : World) (a' : Act), Inv ρ' σ' w' → Stp ρ σ w ρ' σ' w' → TR ρ' t' n a'.tmps → DR ρ' d' a'.defers → Qx Q ρ' e a' w') → c.wpIn (fenc rl) m P Q a w
section
variable {P : Program} {G : Cx} {ρ : Ren} {σ : AHeap} {w : World}
theorem TR.set {t : PT AV} {n k : Nat} {tmps : Array Value} {v : AV} {x : Value} (h : TR ρ t n tmps) (hk : k < n) (hv : VR ρ v x) : TR ρ (t.put (some v) (posOf k)) n (tmps.setIfInBounds k x) := by
  refine ⟨by simpa using h.1, fun j u hu => ?_⟩
  by_cases e : j = k
  · subst e
    rw [PT.get_put_same] at hu; cases hu
    refine ⟨hk, ?_⟩
    have : j < tmps.size := by rw [h.1]; exact hk
    simp_all
  · rw [PT.get_put_other _ _ _ _ (fun h' => e (posOf_inj h'))] at hu
    obtain ⟨h1, h2⟩ := h.2 j u hu
    refine ⟨h1, ?_⟩
    have : (tmps.setIfInBounds k x).getD j undef = tmps.getD j undef := by
      simp only [Array.getD_eq_getD_getElem?, Array.getElem?_setIfInBounds]
      grind
    rw [this]; exact h2
theorem putT_some {t t' : PT AV} {n k : Nat} {v : AV} (h : putT t n (some k) v = some t') : k < n ∧ t' = t.put (some v) (posOf k) := by
  unfold putT at h
  simp only [ite_cond] at h
  split at h
  · rename_i hk
    cases h
    exact ⟨Nat.le_of_ble_eq_true hk, rfl⟩
  · cases h
theorem TR.put {t t' : PT AV} {n : Nat} {a : Act} {dst : Option Tmp} {v : AV} {x : Value} (h : TR ρ t n a.tmps) (hp : putT t n dst v = some t') (hv : VR ρ v x) : TR ρ t' n (a.put dst x).tmps := by
  cases dst with
  | none => cases hp; exact h
  | some k =>
    obtain ⟨hk, rfl⟩ := putT_some hp
    exact h.set hk hv
theorem put_defers (a : Act) (dst : Option Tmp) (x : Value) : (a.put dst x).defers = a.defers := by cases dst <;> rfl
theorem VR_unit : VR ρ unit undef := by simp only [unit, VR]; exact ⟨_, rfl, VRs.nil⟩
theorem eval_sound {t : PT AV} {n : Nat} {a : Act} {x : Operand} {v : AV} (hg : GR ρ G) (ht : TR ρ t n a.tmps) (h : evalT G t x = some v) : VR ρ v (a.eval x) := by
  cases x with
  | tmp k => exact (ht.2 k v h).2
  | const c => exact ofVal_sound h
  | global g =>
    simp only [evalT, ite_cond] at h
    split at h
    · rename_i hlt
      cases h
      obtain ⟨c, hc⟩ := hg g (Nat.le_of_ble_eq_true hlt)
      simp only [VR]
      exact ⟨_, hc, by simp [Act.eval]⟩
    · cases h
  | func f =>
    cases h
    simp only [VR]
    exact ⟨_, _, rfl, VRs.nil, VRs.nil⟩
theorem ER_of {t : PT AV} {n : Nat} {a : Act} (op : Op) (hg : GR ρ G) (ht : TR ρ t n a.tmps) : ER ρ (evalT G t) a.eval op := fun _ _ _ hv => eval_sound hg ht hv
theorem wanted_at {ops : Array Oper} {t : PT AV} {o : Oper} {b : Bool} {tmps : Array Value} (h : wantedA ops t o = some b)
    (hs : ∀ j want k, o.guard = some (j, want) → (ops[j]?).bind (·.dst) = some k → ∀ v, t.get (posOf k) = some v → k < tmps.size ∧ VR ρ v (tmps.getD k undef)) :
    Region.wanted o (yielded ops tmps) = b := by
  unfold wantedA at h
  unfold Region.wanted
  cases hg : o.guard with
  | none => simp_all
  | some jw =>
    obtain ⟨j, want⟩ := jw
    rw [hg] at h
    dsimp only at h ⊢
    cases hk : (ops[j]?).bind (·.dst) with
    | none =>
      rw [hk] at h; cases h
      simp [yielded, hk]
    | some k =>
      rw [hk] at h
      dsimp only at h
      cases hv : t.get (posOf k) with
      | none => rw [hv] at h; cases h
      | some v =>
        rw [hv] at h
        obtain ⟨hlt, hr⟩ := hs j want k hg hk v hv
        have hget : tmps[k]? = some (tmps.getD k undef) := by
          simp_all
        generalize tmps.getD k undef = x at hr hget
        cases v with
        | bool c =>
          simp only [VR] at hr
          subst hr
          simp only [yielded, hk, Option.bind_some, hget]
          cases h
          grind
        | tuple cs =>
          simp only [VR] at hr
          obtain ⟨y, rfl, _⟩ := hr
          cases h
          simp [yielded, hk, hget]
        | _ => cases h
theorem wanted_sound {ops : Array Oper} {t : PT AV} {o : Oper} {b : Bool} {n : Nat} {tmps : Array Value} (h : wantedA ops t o = some b) (ht : TR ρ t n tmps) : Region.wanted o (yielded ops tmps) = b :=
  wanted_at h fun _ _ k _ _ v hv => ⟨by rw [ht.1]; exact (ht.2 k v hv).1, (ht.2 k v hv).2⟩
theorem putAll_sound {n : Nat} : ∀ (ks : List Nat) (vs : List AV) (t t' : PT AV) (tmps : Array Value) (xs : List Value), putAll n ks vs t = some t' → TR ρ t n tmps → VRs ρ vs xs →
    ks.length = xs.length ∧ TR ρ t' n ((ks.zip xs).foldl (fun tmps (t, a) => tmps.setIfInBounds t a) tmps)
  | [], [], t, t', tmps, xs, h, ht, hv => by
    rw [hv.nil_inv]
    have h' : some t = some t' := h
    cases h'
    exact ⟨rfl, ht⟩
  | [], _ :: _, _, _, _, _, h, _, _ => by have h' : (none : Option (PT AV)) = some _ := h; cases h'
  | _ :: _, [], _, _, _, _, h, _, _ => by have h' : (none : Option (PT AV)) = some _ := h; cases h'
  | k :: ks, v :: vs, t, t', tmps, xs, h, ht, hv => by
    obtain ⟨x, r, rfl, h1, h2⟩ := hv.cons_inv
    have h' : (match putT t n (some k) v with | some t' => putAll n ks vs t' | none => none) = some t' := h
    cases hp : putT t n (some k) v with
    | none => rw [hp] at h'; cases h'
    | some t₁ =>
      rw [hp] at h'
      obtain ⟨hk, rfl⟩ := putT_some hp
      obtain ⟨g1, g2⟩ := putAll_sound ks vs _ t' (tmps.setIfInBounds k x) r h' (ht.set hk h1) h2
      exact ⟨by simp [g1], g2⟩
theorem args_sound {n : Nat} {args : List AV} {xs : Array Value} {t : PT AV} (h : argsT n args = some t) (hv : VRs ρ args xs.toList) : TR ρ t n (xs ++ Array.replicate (n - xs.size) undef) := by
  have key : ∀ (args : List AV) (ys : List Value) (k : Nat) (t t' : PT AV), (List.rec (motive := fun _ => Nat → PT AV → Option (PT AV)) (fun _ t => some t) (fun v _ ih k t => match putT t n (some k) v with | some t' => ih (Nat.succ k) t' | none => none) args : Nat → PT AV → Option (PT AV)) k t = some t' →
      VRs ρ args ys → (∀ j v, t.get (posOf j) = some v → j < k ∧ j < n) →
      (∀ j v, t'.get (posOf j) = some v → j < n ∧ ((j < k ∧ t.get (posOf j) = some v) ∨ ∃ y, k ≤ j ∧ ys[j - k]? = some y ∧ VR ρ v y)) ∧ (args = [] ∨ k + args.length ≤ n) := by
    intro args
    induction args with
    | nil =>
      simp_all
    | cons v args ih =>
      intro ys k t t' h hv ht
      obtain ⟨x, r, rfl, h1, h2⟩ := hv.cons_inv
      dsimp only at h
      cases hp : putT t n (some k) v with
      | none => rw [hp] at h; cases h
      | some t₁ =>
        rw [hp] at h
        obtain ⟨hk, rfl⟩ := putT_some hp
        obtain ⟨g1, g2⟩ := ih r (k + 1) _ t' h h2 (fun j u hj => by
          by_cases e : j = k
          · omega
          · rw [PT.get_put_other _ _ _ _ (fun h' => e (posOf_inj h'))] at hj
            grind)
        refine ⟨fun j u hj => ?_, .inr ?_⟩
        · obtain ⟨q1, q2⟩ := g1 j u hj
          refine ⟨q1, ?_⟩
          rcases q2 with ⟨hlt, hg⟩ | ⟨y, hle, hy, hr⟩
          · by_cases e : j = k
            · subst e
              rw [PT.get_put_same] at hg; simp_all
            · rw [PT.get_put_other _ _ _ _ (fun h' => e (posOf_inj h'))] at hg
              simp_all
          grind
        grind
  obtain ⟨g1, g2⟩ := key args xs.toList 0 .leaf t h hv (fun j v hj => by rw [PT.get_leaf] at hj; cases hj)
  have hlen := hv.length
  have hle : xs.size ≤ n := by
    grind
  refine ⟨by simp; omega, fun j v hj => ?_⟩
  obtain ⟨q1, q2⟩ := g1 j v hj
  refine ⟨q1, ?_⟩
  rcases q2 with ⟨hlt, _⟩ | ⟨y, _, hy, hr⟩
  · omega
  · rw [Nat.sub_zero] at hy
    have hjx : j < xs.size := by grind
    simp_all
def resF (tmps : Array Value) : ResultVar → Sem Value
  | .tmp t => pure (tmps.getD t undef)
  | .cell a t => do loadVar t (← asAddr (tmps.getD a undef))
theorem results_eq (fn : Func) (tmps : Array Value) : results fn tmps = (fn.results.mapM (resF tmps) >>= fun vs => pure (if h : vs.size = 1 then vs[0] else .tuple vs)) := rfl
theorem result_sound (hi : Inv ρ σ w) {t : PT AV} {n : Nat} {tmps : Array Value} (ht : TR ρ t n tmps) {r : ResultVar} {v : AV} (h : resultA P t σ r = some v) :
    ∃ x, (resF tmps r).run P w = .ok x w ∧ VR ρ v x := by
  cases r with
  | tmp k => exact ⟨_, rfl, (ht.2 k v h).2⟩
  | cell k ty =>
    simp only [resultA] at h
    cases hk : t.get (posOf k) with
    | none => rw [hk] at h; cases h
    | some u =>
      rw [hk] at h
      have hvx := (ht.2 k u hk).2
      cases u with
      | ptr b off =>
        dsimp only at h
        cases hg : σ.m.get b with
        | none => rw [hg] at h; cases h
        | some ob =>
          rw [hg] at h
          cases ob with
          | row cells e ro =>
            simp only [VR] at hvx
            obtain ⟨l, hl, hfx⟩ := hvx
            obtain ⟨y, hy, hr⟩ := loadVar_sound (P := P) hi hg hl h
            grind [resF, asAddr]
          | _ => cases h
      | _ => cases h
theorem resultsL_sound (hi : Inv ρ σ w) {t : PT AV} {n : Nat} {tmps : Array Value} (ht : TR ρ t n tmps) : ∀ {rs : List ResultVar} {vs : List AV}, allSome (resultA P t σ) rs = some vs →
    ∃ xs : List Value, (rs.mapM (resF tmps) : Sem (List Value)).run P w = .ok xs w ∧ VRs ρ vs xs
  | [], vs, h => by rw [allSome_nil] at h; cases h; exact ⟨[], by simp, VRs.nil⟩
  | r :: rs, vs, h => by
    obtain ⟨y, r', h1, h2, rfl⟩ := allSome_cons h
    obtain ⟨x, hx, hv⟩ := result_sound (P := P) hi ht h1
    obtain ⟨xs, hxs, hvs⟩ := resultsL_sound hi ht h2
    refine ⟨x :: xs, ?_, VRs.cons hv hvs⟩
    simp only [List.mapM_cons, Sem.run_bind, hx, Result.andThen_ok, hxs, Sem.run_pure]
theorem results_sound (hi : Inv ρ σ w) {fn : Func} {t : PT AV} {n : Nat} {tmps : Array Value} (ht : TR ρ t n tmps) {v : AV} (h : resultsA P fn t σ = some v) :
    ∃ x, (results fn tmps).run P w = .ok x w ∧ VR ρ v x := by
  unfold resultsA at h
  cases ha : allSome (resultA P t σ) fn.results.toList with
  | none => rw [ha] at h; cases h
  | some vs =>
    rw [ha] at h
    obtain ⟨xs, hx, hv⟩ := resultsL_sound (P := P) hi ht ha
    have hm : (fn.results.mapM (resF tmps) : Sem (Array Value)).run P w = .ok xs.toArray w := by
      grind [Array.mapM_eq_mapM_toList, Sem.run_map, Result.andThen_ok]
    cases vs with
    | nil =>
      cases h
      have := hv.nil_inv
      subst this
      refine ⟨.tuple #[], by rw [results_eq, Sem.run_bind, hm]; rfl, by simp only [VR]; simp_all⟩
    | cons u us =>
      obtain ⟨x, r, rfl, h1, h2⟩ := hv.cons_inv
      cases us with
      | nil =>
        cases h
        have := h2.nil_inv
        subst this
        exact ⟨x, by rw [results_eq, Sem.run_bind, hm]; rfl, h1⟩
      | cons u' us =>
        cases h
        obtain ⟨x', r', rfl, h3, h4⟩ := h2.cons_inv
        refine ⟨.tuple (x :: x' :: r').toArray, by rw [results_eq, Sem.run_bind, hm]; rfl, by simp only [VR]; simp_all⟩
end
theorem beqP_eq {p q : Pos} (h : beqA.beqP p q = true) : p = q := Nat.eq_of_beq_eq_true h
theorem beqC_eq {c d : Cap} (h : beqA.beqC c d = true) : c = d := by
  unfold beqA.beqC at h
  grind [Nat.eq_of_beq_eq_true]
theorem beq1_eq {x y : AV} (h : beqA.beq1 x y = true) : x = y := by
  unfold beqA.beq1 at h
  split at h
  · grind
  · rw [Bool.and_eq_true, eqI_eq, decide_eq_true_eq] at h; rw [eqK_eq h.1, h.2]
  · rw [eqS_eq, decide_eq_true_eq] at h; rw [h]
  · rfl
  · simp_all
  · rw [Bool.and_eq_true] at h; rw [beqP_eq h.1, Nat.eq_of_beq_eq_true h.2]
  · rfl
  · simp only [Bool.and_eq_true] at h; grind [beqP_eq, Nat.eq_of_beq_eq_true, beqC_eq]
  · rfl
  · rw [beqP_eq h]
  · rfl
  · rfl
  · simp_all
  · simp only [Bool.and_eq_true] at h; grind [Nat.eq_of_beq_eq_true, beqP_eq]
  · cases h
theorem beqL_eq : ∀ {xs ys : List AV}, beqA.beqL xs ys = true → xs = ys
  | [], [], _ => rfl
  | [], _ :: _, h => by cases h
  | _ :: _, [], h => by cases h
  | x :: xs, y :: ys, h => by
    have h' : (bif beqA.beq1 x y then beqA.beqL xs ys else false) = true := h
    rw [ite_cond] at h'
    split at h'
    · rename_i hb; rw [beq1_eq hb, beqL_eq h']
    · cases h'
theorem beqA_eq {x y : AV} (h : beqA x y = true) : x = y := by
  unfold beqA at h
  split at h
  · rw [beqL_eq h]
  · exact beq1_eq h
theorem laidPT_get (E : Nat → TypeId) {l : List (Nat × List AV)} {b : Nat} {o : AObj} (h : (laidPT l E).get b = some o) : ∃ x ∈ l, x.1 = b ∧ o = .row x.2 (E x.1) true := by
  have key : ∀ (l : List (Nat × List AV)) (m : PT AObj), (l.foldl (fun m x => m.put (some (.row x.2 (E x.1) true)) (posOf x.1)) m).get b = some o → (∃ x ∈ l, x.1 = b ∧ o = .row x.2 (E x.1) true) ∨ m.get b = some o := by
    intro l
    induction l with
    | nil => simp_all
    | cons x l ih =>
      intro m h
      rcases ih _ h with ⟨y, h1, h2⟩ | h
      · grind
      · rw [PT.get_put] at h
        grind
  rcases key l _ h with h | h
  · exact h
  · rw [PT.get_leaf] at h; cases h
section
variable {P : Program} {G : Cx} {ρ : Ren} {σ : AHeap} {w : World}
theorem Inv.putObj (hi : Inv ρ σ w) {b : Pos} {l : Loc} {o o' : AObj} {x : Obj} (hb : σ.m.get b = some o) (hl : ρ b = some l) (hro : o.ro = false) (hro' : o'.ro = false) (ho : ObjR ρ l o' x) :
    Inv ρ (σ.setObj b o') (w.putObj l.blk x) ∧ Stp ρ σ w ρ (σ.setObj b o') (w.putObj l.blk x) := by
  have hlt := hi.blk b l hl
  exact hi.change hb hl hro hro' (World.putObj_heap_same hlt) ho (fun r hr => World.putObj_heap_other hr) (by simp) rfl rfl ⟨rfl, Nat.le_refl _⟩
theorem op_sound (hov : ∀ g, G.ov g = true → OvFact P g) {ev : Operand → Option AV} {f : Operand → Value} {o : Oper} {r : HR} (hi : Inv ρ σ w) (hE : ER ρ ev f o.op) (h : opX P G ev σ o.op = r) (hne : ∀ n, r ≠ .err n) : HOut P ρ σ w r ((execOp f o).run P w) := by
  subst h
  unfold opX at hne ⊢
  cases hk : kindOf P o.op with
  | pure =>
    rw [hk] at hne
    dsimp only at hne ⊢
    cases hp : pureA P ev o.op with
    | none => simp_all
    | some v =>
      obtain ⟨x, hx, hv⟩ := pure_sound (P := P) (w := w) hE hp
      rw [hx]
      exact .val hv hi (Stp.refl ρ σ w)
  | read =>
    rw [hk] at hne
    dsimp only at hne ⊢
    cases hp : readA P ev σ o.op with
    | none => simp_all
    | some v =>
      obtain ⟨x, hx, hv⟩ := read_sound (P := P) hi hE hp
      rw [hx]
      exact .val hv hi (Stp.refl ρ σ w)
  | alloc =>
    rw [hk] at hne
    dsimp only at hne ⊢
    cases hp : allocA P ev o.op with
    | none => simp_all
    | some p =>
      obtain ⟨ob, mk⟩ := p
      obtain ⟨x, ob', n, hx, hro, hob, hv⟩ := alloc_sound (P := P) (w := w) hE hp
      obtain ⟨inv, st⟩ := hi.alloc (l := ⟨w.heap.size, 0, n⟩) rfl hob
      rw [hx]
      exact .val (hv _ _ (Ren.with_same _ _ _)) inv st
  | heavy =>
    rw [hk] at hne
    exact heavy_sound hov hi hE rfl hne
theorem op_no_defer {ev : Operand → Option AV} {o : Oper} (hne : ∀ n, opX P G ev σ o.op ≠ .err n) (c : Call) : o.op ≠ .defer c := by
  intro e
  rw [e] at hne
  exact hne 16 rfl
def MdR (ρ : Ren) : Md → FrameMode → Prop
  | .ret, u => u = .returning
  | .pan v, u => ∃ x, u = .panicking [{ v := x, recovered := false }] ∧ VR ρ v x
  | .rcv v, u => ∃ x, u = .panicking [{ v := x, recovered := true }] ∧ VR ρ v x
theorem MdR.mono {ρ ρ' : Ren} (h : ρ.le ρ') : ∀ {md : Md} {u : FrameMode}, MdR ρ md u → MdR ρ' md u
  | .ret, _, h' => h'
  | .pan _, _, ⟨x, h1, h2⟩ => ⟨x, h1, VR.mono h _ _ h2⟩
  | .rcv _, _, ⟨x, h1, h2⟩ => ⟨x, h1, VR.mono h _ _ h2⟩
theorem MdR.not_run {ρ : Ren} : ∀ {md : Md} {u : FrameMode}, MdR ρ md u → u ≠ .run
  | .ret, u, h => by have h : u = .returning := h; subst h; simp
  | .pan v, u, ⟨x, h1, h2⟩ => by subst h1; simp
  | .rcv v, u, ⟨x, h1, h2⟩ => by subst h1; simp
theorem leave_sound {ih : IhC} (hS : Sound P G ih) {fn : Func} {m : Nat} {tmps : Array Value} {R : Ending → World → Prop} : ∀ (d : List DE) (ds : List Deferred) (md : Md) (σ : AHeap) (md₁ : Md) (σ₁ : AHeap) (ρ : Ren) (w : World) (u : FrameMode), leaveX P G ih d md σ = some (md₁, σ₁) → DR ρ d ds → Inv ρ σ w → GR ρ G → MdR ρ md u →
    (∀ (ρ' : Ren) (w' : World) (u' : FrameMode), Inv ρ' σ₁ w' → Stp ρ σ w ρ' σ₁ w' → MdR ρ' md₁ u' → LeavesIn Fence.wide m P fn tmps R [] u' w') → LeavesInM Fence.wide m P fn tmps R ds u w
  | [], ds, md, σ, md₁, σ₁, ρ, w, u, h, hd, hi, hg, hm, hk => by
    have h' : some (md, σ) = some (md₁, σ₁) := h
    cases h'
    have : ds = [] := hd
    subst this
    exact hk ρ w u hi (Stp.refl ρ σ w) hm
  | .mark b :: d, ds, md, σ, md₁, σ₁, ρ, w, u, h, hd, hi, hg, hm, hk => by
    obtain ⟨l, r, hl, rfl, hd'⟩ := hd
    have h' : (match σ.m.get b with
        | some .mark => leaveX P G ih d md (σ.setObj b .dead)
        | _ => none) = some (md₁, σ₁) := h
    cases hb : σ.m.get b with
    | none => rw [hb] at h'; cases h'
    | some o =>
      rw [hb] at h'
      cases o with
      | mark =>
        dsimp only at h'
        obtain ⟨x, hx, hox⟩ := hi.obj b _ l hb hl
        have hox' : x = .deferred (some []) := hox
        subst hox'
        obtain ⟨inv, st⟩ := hi.putObj (o' := .dead) (x := .deferred none) hb hl rfl rfl trivial
        refine ⟨hm.not_run, .inl ⟨l.blk, w.putObj l.blk (.deferred none), rfl, run_takeDeferred hx, ?_⟩⟩
        exact leave_sound hS d r md _ md₁ σ₁ ρ _ u h' hd' inv hg hm fun ρ' w' u' hi' st' => hk ρ' w' u' hi' (st.trans st')
      | _ => cases h'
  | .call _ _ _ :: _, ds, md, σ, md₁, σ₁, ρ, w, u, h, hd, hi, hg, hm, hk => by cases h
theorem end_sound {ih : IhC} (hS : Sound P G ih) {fn : Func} {m n : Nat} {t : PT AV} {d : List DE} {md : Md} {r : KR} {a : Act} {u : FrameMode} {R : Ending → World → Prop} (h : endX P G ih fn md t d σ = r) (hne : ∀ n, r ≠ .err n) (hi : Inv ρ σ w) (hg : GR ρ G) (ht : TR ρ t n a.tmps) (hd : DR ρ d a.defers) (hm : MdR ρ md u)
    (hR : ∀ (ρ' : Ren) (w' : World) (E : Ending), Inv ρ' r.heap w' → Stp ρ σ w ρ' r.heap w' → EndR ρ' r E → R E w') : LeavesInM Fence.wide m P fn a.tmps R a.defers u w := by
  unfold endX at h
  cases hl : leaveX P G ih d md σ with
  | none => grind
  | some q =>
    obtain ⟨md₁, σ₁⟩ := q
    rw [hl] at h
    cases md₁ with
    | ret =>
      dsimp only at h
      cases hr : resultsA P fn t σ₁ with
      | none => grind
      | some v =>
        rw [hr] at h
        subst h
        refine leave_sound hS d a.defers md σ _ _ ρ w u hl hd hi hg hm fun ρ' w' u' hi' st' hm' => ?_
        have hm' : u' = .returning := hm'
        subst hm'
        obtain ⟨x, hx, hv⟩ := results_sound (P := P) hi' (ht.mono (st'.le hi)) hr
        exact ⟨x, hx, hR ρ' w' _ hi' st' ⟨x, rfl, hv⟩⟩
    | pan v =>
      dsimp only at h
      subst h
      refine leave_sound hS d a.defers md σ _ _ ρ w u hl hd hi hg hm fun ρ' w' u' hi' st' hm' => ?_
      obtain ⟨x, rfl, hv⟩ := hm'
      exact hR ρ' w' _ hi' st' ⟨x, rfl, hv⟩
    | rcv v => grind
theorem callC_gen {ih : IhC} (hS : Sound P G ih) {f : Nat} {args : List AV} {xs : Array Value} {r : KR} (h : callC P G ih f args σ = r) (hne : ∀ n, r ≠ .err n) (hi : Inv ρ σ w) (hg : GR ρ G) (hx : VRs ρ args xs.toList)
    (rl : Option Nat) (m : Nat) {R : Ending → World → Prop} (hR : ∀ (ρ' : Ren) (w' : World) (E : Ending), Inv ρ' r.heap w' → Stp ρ σ w ρ' r.heap w' → EndR ρ' r E → R E w') : CallsIn (fenc rl) m P f xs w R := by
  refine fenc_calls rl ?_
  unfold callC at h
  cases hf : P.funcs[f]? with
  | none => grind
  | some fn =>
  rw [hf] at h
  dsimp only at h
  cases hb : fn.body with
  | none => grind
  | some c =>
  cases ha : argsT fn.ntmps args with
  | none => grind
  | some t =>
  rw [hb, ha] at h
  dsimp only at h
  refine callsIn_of_wp_marks hf hb trivial ?_
  have ht := args_sound ha hx
  cases hc : ih c t fn.ntmps [] none σ with
  | err k => grind
  | ok e t' d' σ₁ =>
    rw [hc] at h
    have hcode := fun (Q : Exit → Act → World → Prop) hQ => hS.run c t fn.ntmps [] none σ e t' d' σ₁ hc ρ w { tmps := xs ++ Array.replicate (fn.ntmps - xs.size) undef, defers := [] } none m Q hi hg ht rfl trivial hQ
    cases e with
    | normal =>
      refine hcode _ fun ρ' w' a' hi' st ht' hd' E hE => ?_
      have hE : E = .normal := hE
      subst hE
      exact end_sound hS h hne hi' (hg.mono (st.le hi)) ht' hd' (md := .ret) rfl fun ρ₂ w₂ E i₂ s₂ hE => hR ρ₂ w₂ E i₂ (st.trans s₂) hE
    | ret =>
      refine hcode _ fun ρ' w' a' hi' st ht' hd' E hE => ?_
      have hE : E = .ret := hE
      subst hE
      exact end_sound hS h hne hi' (hg.mono (st.le hi)) ht' hd' (md := .ret) rfl fun ρ₂ w₂ E i₂ s₂ hE => hR ρ₂ w₂ E i₂ (st.trans s₂) hE
    | pan v =>
      refine hcode _ fun ρ' w' a' hi' st ht' hd' E hE => ?_
      obtain ⟨x, rfl, hv⟩ := hE
      exact end_sound hS h hne hi' (hg.mono (st.le hi)) ht' hd' (md := .pan v) ⟨x, rfl, hv⟩ fun ρ₂ w₂ E i₂ s₂ hE => hR ρ₂ w₂ E i₂ (st.trans s₂) hE
    | exit i => grind
    | goto i => grind
theorem callC_sound {ih : IhC} (hS : Sound P G ih) {f : Nat} {args : List AV} {xs : Array Value} {σ' : AHeap} {v : AV} (h : callC P G ih f args σ = .ret v σ') (hi : Inv ρ σ w) (hg : GR ρ G) (hx : VRs ρ args xs.toList)
    (rl : Option Nat) (m : Nat) {R : Ending → World → Prop} (hR : ∀ (ρ' : Ren) (w' : World) (x : Value), Inv ρ' σ' w' → Stp ρ σ w ρ' σ' w' → VR ρ' v x → R (.returned x) w') : CallsIn (fenc rl) m P f xs w R :=
  callC_gen hS h (fun n h => by cases h) hi hg hx rl m fun ρ' w' E i s ⟨x, hE, hv⟩ => by subst hE; exact hR ρ' w' x i s hv
theorem flat_any {ρ ρ' : Ren} {v : AV} {x : Value} (h : flatB v = true) (hv : VR ρ v x) : VR ρ' v x := by
  cases v <;> first | (simp [flatB] at h; done) | (simp only [VR] at hv ⊢; exact hv)
theorem allFlat_cons {v : AV} {l : List AV} (h : allFlat (v :: l) = true) : flatB v = true ∧ allFlat l = true := by
  have h' : (bif flatB v then allFlat l else false) = true := h
  simp_all
theorem allFlat_mem : ∀ {l : List AV}, allFlat l = true → ∀ v ∈ l, flatB v = true
  | [], _, v, hv => by cases hv
  | x :: l, h, v, hv => by
    obtain ⟨h1, h2⟩ := allFlat_cons h
    rcases List.mem_cons.1 hv with rfl | hv
    · exact h1
    · exact allFlat_mem h2 v hv
theorem allFlat_any {ρ ρ' : Ren} : ∀ {vs : List AV} {xs : List Value}, allFlat vs = true → VRs ρ vs xs → VRs ρ' vs xs
  | [], xs, _, h => by rw [h.nil_inv]; exact VRs.nil
  | v :: vs, xs, h, hv => by
    obtain ⟨h1, h2⟩ := allFlat_cons h
    obtain ⟨x, r, rfl, h3, h4⟩ := hv.cons_inv
    exact VRs.cons (flat_any h1 h3) (allFlat_any h2 h4)
theorem eqFlat_eq {x y : AV} (h : eqFlat x y = true) : x = y := by
  unfold eqFlat at h
  split at h
  · grind
  · rw [Bool.and_eq_true, eqI_eq, decide_eq_true_eq] at h; rw [eqK_eq h.1, h.2]
  · rw [eqS_eq, decide_eq_true_eq] at h; rw [h]
  · rfl
  · rfl
  · rfl
  · rfl
  · rfl
  · cases h
theorem eqFlats_eq : ∀ {xs ys : List AV}, eqFlats xs ys = true → xs = ys
  | [], [], _ => rfl
  | [], _ :: _, h => by cases h
  | _ :: _, [], h => by cases h
  | x :: xs, y :: ys, h => by
    have h' : (bif eqFlat x y then eqFlats xs ys else false) = true := h
    rw [ite_cond] at h'
    split at h'
    · rename_i hb; rw [eqFlat_eq hb, eqFlats_eq h']
    · cases h'
theorem replN_eq (v : AV) : ∀ (n : Nat), replN n v = List.replicate n v
  | 0 => rfl
  | n + 1 => by show v :: replN n v = _; rw [replN_eq v n, List.replicate_succ]
theorem Keeps.inv {w w' : World} (hk : Keeps w w') (hi : Inv ρ σ w) : Inv ρ σ w' ∧ Stp ρ σ w ρ σ w' :=
  hi.of ⟨⟨hi.fresh, fun b l hb => Nat.lt_of_lt_of_le (hi.blk b l hb) hk.size, fun b o l hb hl => let ⟨x, hx, ho⟩ := hi.obj b o l hb hl; ⟨x, by rw [hk.same _ (hi.blk b l hl)]; exact hx, ho⟩, hi.inj⟩,
    ⟨fun _ _ => rfl, Nat.le_refl _, hk.size, fun r hr _ => hk.same r hr, fun _ h _ => h, hk.tape, hk.os, hk.out⟩⟩
theorem get_two {b vb : Pos} {o o' : AObj} (x : Pos) : (twoBlocks σ b o vb o').m.get x = if x = vb then some o' else if x = b then some o else none := by
  unfold twoBlocks
  rw [PT.get_put, PT.get_put, PT.get_leaf]
theorem two_inv (hi : Inv ρ σ w) {b vb : Pos} {o o₁ o' : AObj} {l : Loc} (hb : σ.m.get b = some o) (hvb : σ.m.get vb = some o') (hl : ρ b = some l) (hro : o.ro = o₁.ro)
    (ho : ∀ x, ObjR ρ l o x → ObjR ρ l o₁ x) : Inv ρ (twoBlocks σ b o₁ vb o') w := by
  have back : ∀ x q, (twoBlocks σ b o₁ vb o').m.get x = some q → ∃ q', σ.m.get x = some q' ∧ q.ro = q'.ro ∧ ((x = b ∧ q = o₁) ∨ q = q') := fun x q h => by
    rw [get_two] at h
    grind
  refine ⟨⟨fun x hx => ⟨(hi.fresh x hx).1, ?_⟩, hi.blk, fun x q lx hx hlx => ?_, fun x y q r lx ly hx hy hlx hly he hne => ?_⟩, hi.old.size, hi.old.same, fun r hr ⟨x, q, l', h1, h2, h3, h4⟩ => ?_⟩
  · cases hq : (twoBlocks σ b o₁ vb o').m.get x with
    | none => rfl
    | some q =>
      obtain ⟨q', h', _⟩ := back x q hq
      rw [(hi.fresh x hx).2] at h'; cases h'
  · obtain ⟨q', h', _, h''⟩ := back x q hx
    obtain ⟨y, hy, hr⟩ := hi.obj x q' lx h' hlx
    grind
  · obtain ⟨q', h1, h2, _⟩ := back x q hx
    obtain ⟨r', h3, h4, _⟩ := back y r hy
    rw [h2, h4]
    exact hi.inj x y q' r' lx ly h1 h3 hlx hly he hne
  · obtain ⟨q', h5, h6, _⟩ := back x q h1
    exact hi.old.no r hr ⟨x, q', l', h5, by rw [← h6]; exact h2, h3, h4⟩
theorem join_core (hi : Inv ρ σ w) {b vb : Pos} {cells cells' vc : List AV} {e ve : Nat} {l lv : Loc} (hb : σ.m.get b = some (.row cells e false)) (hvb : σ.m.get vb = some (.row vc ve false)) (hlb : ρ b = some l) (hlv : ρ vb = some lv)
    (hne : b ≠ vb) {ρ₁ : Ren} {σ₁ : AHeap} {w₁ : World} (i₁ : Inv ρ₁ σ₁ w₁) (s₁ : Stp ρ (twoBlocks σ b (.row cells' e false) vb (.row vc ve false)) w ρ₁ σ₁ w₁) {b₁ : Pos} {l₁ : Loc} {cs₁ : List AV} {o₁ k : Nat}
    (g₁ : σ₁.m.get b₁ = some (.row cs₁ e false)) (hl₁ : ρ₁ b₁ = some l₁) (gv : σ₁.m.get vb = some (.row vc ve false)) (hne₁ : b₁ ≠ vb) (hfv : allFlat vc = true) (hk : o₁ + k ≤ cs₁.length) (hfr : allFlat ((cs₁.drop o₁).take k) = true) :
    InvC (ρ.with σ.next ⟨l₁.blk, l₁.sh + o₁, l₁.cells - o₁⟩) ((σ.drop b).alloc (.row ((cs₁.drop o₁).take k) e false)) w₁ ∧
      Stp ρ σ w (ρ.with σ.next ⟨l₁.blk, l₁.sh + o₁, l₁.cells - o₁⟩) ((σ.drop b).alloc (.row ((cs₁.drop o₁).take k) e false)) w₁ := by
  have hle := hi.with_le ⟨l₁.blk, l₁.sh + o₁, l₁.cells - o₁⟩
  have hsame : ((σ.drop b).alloc (.row ((cs₁.drop o₁).take k) e false)).m.get σ.next = some (.row ((cs₁.drop o₁).take k) e false) := PT.get_put_same _ _ _
  have hget : ∀ x, x ≠ σ.next → ((σ.drop b).alloc (.row ((cs₁.drop o₁).take k) e false)).m.get x = if x = b then none else σ.m.get x := fun x hx => by
    show ((σ.m.put none b).put _ σ.next).get x = _
    rw [PT.get_put_other _ _ _ _ hx, PT.get_put]
  have old : ∀ x q, x ≠ σ.next → ((σ.drop b).alloc (.row ((cs₁.drop o₁).take k) e false)).m.get x = some q → x ≠ b ∧ σ.m.get x = some q := fun x q hx h => by
    simp_all
  have hold : ∀ x lx, x ≠ σ.next → (ρ.with σ.next ⟨l₁.blk, l₁.sh + o₁, l₁.cells - o₁⟩) x = some lx → ρ x = some lx := fun x lx hx h => by rwa [Ren.with_other ρ _ hx] at h
  have hnb : ∀ x : Pos, x.num < σ.next.num → x ≠ σ.next := fun x hx e => by simp_all
  have wr2 : ∀ r, Wr ρ (twoBlocks σ b (.row cells' e false) vb (.row vc ve false)) r → r = l.blk ∨ r = lv.blk := fun r ⟨x, q, lx, h1, h2, h3, h4⟩ => by
    rw [get_two] at h1
    grind
  have wrs : ∀ r, Wr ρ (twoBlocks σ b (.row cells' e false) vb (.row vc ve false)) r → Wr ρ σ r := fun r h => by
    rcases wr2 r h with rfl | rfl
    · exact ⟨b, _, l, hb, rfl, hlb, rfl⟩
    · exact ⟨vb, _, lv, hvb, rfl, hlv, rfl⟩
  have away : ∀ x q lx, x ≠ b → x ≠ vb → σ.m.get x = some q → ρ x = some lx → lx.blk ≠ l.blk ∧ lx.blk ≠ lv.blk := fun x q lx h1 h2 h3 h4 => by
    constructor
    · intro he
      have := (hi.inj x b q _ lx l h3 hb h4 hlb he h1).2
      simp [AObj.ro] at this
    · intro he
      have := (hi.inj x vb q _ lx lv h3 hvb h4 hlv he h2).2
      simp [AObj.ro] at this
  have hnew : ∀ x q lx, x ≠ b → σ.m.get x = some q → ρ x = some lx → lx.blk ≠ l₁.blk := fun x q lx h1 h3 h4 he => by
    have hlt := hi.blk x lx h4
    have hw : Wr ρ₁ σ₁ lx.blk := ⟨b₁, _, l₁, g₁, rfl, hl₁, he.symm⟩
    by_cases h2 : x = vb
    · subst h2
      rw [hlv] at h4; cases h4
      have hlv₁ : ρ₁ x = some lv := s₁.ext x (hi.num_lt hlv) |>.trans hlv
      have := (i₁.inj b₁ x _ _ l₁ lv g₁ gv hl₁ hlv₁ he.symm hne₁).1
      simp [AObj.ro] at this
    · obtain ⟨a1, a2⟩ := away x q lx h1 h2 h3 h4
      rcases wr2 _ (s₁.wr _ hw hlt) with h | h
      · exact a1 h
      · exact a2 h
  have flatObj : ∀ {l' : Loc} {c : List AV} {e' : Nat} {y : Obj} {ρa ρb : Ren}, allFlat c = true → ObjR ρa l' (.row c e' false) y → ObjR ρb l' (.row c e' false) y := fun hc ho => by
    obtain ⟨c', fr, h1, h2, h3, h4, h5⟩ := ho
    exact ⟨c', fr, h1, h2, h3, fun i v hv => let ⟨z, hz, hzv⟩ := h4 i v hv; ⟨z, hz, flat_any (allFlat_mem hc v (List.mem_of_getElem? hv)) hzv⟩, h5⟩
  constructor
  · refine ⟨fun x hx => ?_, fun x lx hlx => ?_, fun x q lx hx hlx => ?_, fun x y q r lx ly hx hy hlx hly he hne' => ?_⟩
    · have hx' : σ.next.num + 1 ≤ x.num := by simpa [AHeap.alloc, AHeap.drop, Pos.num_succ] using hx
      have hxn : x ≠ σ.next := fun e => by subst e; omega
      have hf := hi.fresh x (by omega)
      grind [Ren.with_other]
    · by_cases hxn : x = σ.next
      · subst hxn; rw [Ren.with_same] at hlx; cases hlx; exact i₁.blk b₁ l₁ hl₁
      · exact Nat.lt_of_lt_of_le (hi.blk x lx (hold x lx hxn hlx)) s₁.size
    · by_cases hxn : x = σ.next
      · subst hxn
        rw [hsame] at hx; rw [Ren.with_same] at hlx; cases hx; cases hlx
        obtain ⟨c, fr, h1, h2, h3, h4, h5⟩ := i₁.row g₁ hl₁
        refine ⟨_, h1, c, fr, rfl, ?_, ?_, fun i v hv => ?_, fun _ j hj => h5 rfl j (by grind)⟩
        · grind
        · grind
        grind [flat_any, allFlat_mem]
      · obtain ⟨hxb, hx'⟩ := old x q hxn hx
        have hlx' := hold x lx hxn hlx
        by_cases hxv : x = vb
        · subst hxv
          rw [hvb] at hx'; cases hx'
          rw [hlv] at hlx'; cases hlx'
          have hlv₁ : ρ₁ x = some lv := (s₁.ext x (hi.num_lt hlv)).trans hlv
          obtain ⟨y, hy, hr⟩ := i₁.obj x _ lv gv hlv₁
          grind
        · obtain ⟨y, hy, hr⟩ := hi.obj x q lx hx' hlx'
          refine ⟨y, ?_, hr.mono hle⟩
          rw [s₁.frame _ (hi.blk x lx hlx') (fun h => ?_)]
          · exact hy
          grind
    · by_cases e1 : x = σ.next <;> by_cases e2 : y = σ.next
      · simp_all
      · grind [Ren.with_same]
      · grind [Ren.with_same]
      · exact hi.inj x y q r lx ly (old x q e1 hx).2 (old y r e2 hy).2 (hold x lx e1 hlx) (hold y ly e2 hly) he hne'
  · refine ⟨fun x hx => Ren.with_other ρ _ (hnb x hx), by simp [AHeap.alloc, AHeap.drop, Pos.num_succ], s₁.size, fun r hr hn => s₁.frame r hr fun h => hn (wrs r h), ?_, s₁.tape, s₁.os, s₁.out⟩
    rintro r ⟨x, q, lx, h1, h2, h3, rfl⟩ hr
    by_cases e1 : x = σ.next
    · subst e1
      rw [Ren.with_same] at h3; cases h3
      exact wrs _ (s₁.wr _ ⟨b₁, _, l₁, g₁, rfl, hl₁, rfl⟩ hr)
    · exact ⟨x, q, lx, (old x q e1 h1).2, h2, hold x lx e1 h3, rfl⟩
theorem join_sound (hi : Inv ρ σ w) {b vb : Pos} {cells cells' vc : List AV} {e ve : Nat} {l lv : Loc} (hb : σ.m.get b = some (.row cells e false)) (hvb : σ.m.get vb = some (.row vc ve false)) (hlb : ρ b = some l) (hlv : ρ vb = some lv)
    (hne : b ≠ vb) {ρ₁ : Ren} {σ₁ : AHeap} {w₁ : World} (i₁ : Inv ρ₁ σ₁ w₁) (s₁ : Stp ρ (twoBlocks σ b (.row cells' e false) vb (.row vc ve false)) w ρ₁ σ₁ w₁) {b₁ : Pos} {l₁ : Loc} {cs₁ : List AV} {o₁ k : Nat}
    (g₁ : σ₁.m.get b₁ = some (.row cs₁ e false)) (hl₁ : ρ₁ b₁ = some l₁) (gv : σ₁.m.get vb = some (.row vc ve false)) (hne₁ : b₁ ≠ vb) (hfv : allFlat vc = true) (hk : o₁ + k ≤ cs₁.length) (hfr : allFlat ((cs₁.drop o₁).take k) = true) :
    Inv (ρ.with σ.next ⟨l₁.blk, l₁.sh + o₁, l₁.cells - o₁⟩) ((σ.drop b).alloc (.row ((cs₁.drop o₁).take k) e false)) w₁ ∧
      Stp ρ σ w (ρ.with σ.next ⟨l₁.blk, l₁.sh + o₁, l₁.cells - o₁⟩) ((σ.drop b).alloc (.row ((cs₁.drop o₁).take k) e false)) w₁ := hi.of (join_core hi hb hvb hlb hlv hne i₁ s₁ g₁ hl₁ gv hne₁ hfv hk hfr)
theorem noPanK_ret {r : KR} {v : AV} {σ' : AHeap} (h : noPanK r = .ret v σ') : r = .ret v σ' := by
  unfold noPanK at h
  grind
theorem noPanK_pan (r : KR) (v : AV) (σ' : AHeap) : noPanK r ≠ .pan v σ' := by
  unfold noPanK
  grind
theorem fork_sound {ih : IhC} (hS : Sound P G ih) {f : Nat} {args : List AV} {xs : Array Value} {σ' : AHeap} {v : AV} (h : forkX P G ih f args σ = .ret v σ') (hi : Inv ρ σ w) (hg : GR ρ G) (hx : VRs ρ args xs.toList)
    (rl : Option Nat) (m : Nat) {R : Ending → World → Prop} (hR : ∀ (ρ' : Ren) (w' : World) (x : Value), Inv ρ' σ' w' → Stp ρ σ w ρ' σ' w' → VR ρ' v x → R (.returned x) w') : CallsIn (fenc rl) m P f xs w R := by
  unfold forkX at h
  split at h
  · rename_i b off n sz i vb voff q mc
    split at h
    · rename_i cells e vc ve hb hvb
      rw [ite_cond] at h
      split at h
      · rename_i hc
        simp only [Bool.and_eq_true, Nat.ble_eq, Nat.beq_eq, lenN_eq] at hc
        obtain ⟨hne, hn1, hq1, hfi, hfv, hlen⟩ := hc
        subst hq1
        have hne' : b ≠ vb := fun e => by subst e; rw [samePos_self] at hne; simp at hne
        split at h
        · rename_i n1 r1 n2 r2 hr1 hr2
          rw [ite_cond] at h
          split at h
          · rename_i hq
            rw [Bool.and_eq_true] at hq
            have en := Nat.eq_of_beq_eq_true hq.1
            have er := eqFlats_eq hq.2
            subst en; subst er
            cases h
            obtain ⟨x1, rr, e1, hs, hx2⟩ := hx.cons_inv
            obtain ⟨x2, rr', rfl, hiv, hx3⟩ := hx2.cons_inv
            obtain ⟨x3, rr'', rfl, hvv, hx4⟩ := hx3.cons_inv
            have := hx4.nil_inv
            subst this
            simp only [VR] at hs
            obtain ⟨l, hl, hd⟩ := hs
            have hd' : ∃ c, x1 = .slice (some ⟨l.blk, l.sh + off, none⟩) n c ∧ n ≤ c ∧ off + c * sz = l.cells := by
              grind
            obtain ⟨c, rfl, hnc, hcells⟩ := hd'
            have hvv' := hvv
            simp only [VR] at hvv'
            obtain ⟨lv, hlv, _⟩ := hvv'
            have go : ∀ (cells' : List AV) (cap : Cap) (okc : Cap → Nat → Bool), (∀ x, ObjR ρ l (.row cells e false) x → ObjR ρ l (.row cells' e false) x) →
                forkRes vb vc ve e sz (callC P G ih f [.slice b off n cap, i, .slice vb voff 1 (.known mc)] (twoBlocks σ b (.row cells' e false) vb (.row vc ve false))) okc = some (n1, r1) →
                VR ρ (.slice b off n cap) (.slice (some ⟨l.blk, l.sh + off, none⟩) n c) →
                (∀ c1 b1 o1 n1 l1 ρ1 x, okc c1 n1 = true → 1 ≤ n1 → ρ1 b1 = some l1 → VR ρ1 (.slice b1 o1 n1 c1) x → ∃ c', x = .slice (some ⟨l1.blk, l1.sh + o1, none⟩) n1 c' ∧ n1 ≤ c' ∧ o1 + c' * sz = l1.cells) →
                CallsIn (fenc rl) m P f xs w R := by
              intro cells' cap okc hobj hres hcap hok
              unfold forkRes at hres
              split at hres
              · rename_i b1 o1 n1' c1 σ1 hcall
                split at hres
                · rename_i cs1 e1' vc1 ve1 g1 gv
                  rw [ite_cond] at hres
                  split at hres
                  · rename_i hcc
                    simp only [Bool.and_eq_true, Nat.ble_eq, Nat.beq_eq, lenN_eq] at hcc
                    obtain ⟨k1, k2, k3, k4, k5, k6, k7, k8⟩ := hcc
                    cases hres
                    have hne1 : b1 ≠ vb := fun e => by subst e; rw [samePos_self] at k2; simp at k2
                    have ev := eqFlats_eq k3
                    subst ev; subst k4; subst k5
                    have hiL := two_inv hi (o₁ := .row cells' e false) hb hvb hl rfl hobj
                    refine callC_sound hS hcall hiL hg ?_ rl m fun ρ1 w1 x i1 s1 hvx => ?_
                    · grind [VRs.cons]
                    · obtain ⟨l1, hl1⟩ : ∃ l1, ρ1 b1 = some l1 := by
                        cases c1 <;> simp only [VR] at hvx
                        · grind
                        · grind
                        grind
                      obtain ⟨c', rfl, hc1, hc2⟩ := hok c1 b1 o1 n1 l1 ρ1 x k1 k6 hl1 hvx
                      rw [takeN_eq, dropN_eq] at k8 hR
                      obtain ⟨iJ, sJ⟩ := join_sound (k := n1 * sz) hi hb hvb hl hlv hne' i1 s1 g1 hl1 gv hne1 hfv k7 k8
                      refine hR _ w1 _ iJ sJ ?_
                      simp only [VR]
                      refine ⟨_, Ren.with_same _ _ _, .inl ⟨c', rfl, hc1, ?_⟩⟩
                      grind
                  · cases hres
                · cases hres
              · cases hres
            by_cases hcn : c = n
            · subst hcn
              refine go cells (.known c) (isUpto sz) (fun _ h => h) hr1 (by simp only [VR]; simp_all) fun c1 b1 o1 n1 l1 ρ1 x h1 h2 h3 h4 => ?_
              unfold isUpto at h1
              grind [Nat.eq_of_beq_eq_true, VR]
            · have hlt : n + 1 ≤ c := by omega
              refine go (appN (takeN cells (off + n * sz)) (replN sz .any)) (.least (Nat.succ n) sz) (isLeast sz) (fun x ho => ?_) hr2 (by simp only [VR]; simp_all) fun c1 b1 o1 n1 l1 ρ1 x h1 h2 h3 h4 => ?_
              · obtain ⟨cc, fr, h1, h2, h3, h4, h5⟩ := ho
                have hmul : (n + 1) * sz ≤ c * sz := Nat.mul_le_mul_right _ hlt
                have hsz : (n + 1) * sz = n * sz + sz := Nat.succ_mul n sz
                refine ⟨cc, fr, h1, h2, ?_, fun j v hv => ?_, h5⟩
                · rw [appN_eq, takeN_eq, replN_eq, List.length_append, List.length_take, List.length_replicate]; omega
                · rw [appN_eq, takeN_eq, replN_eq] at hv
                  by_cases hj : j < off + n * sz
                  · grind
                  · have hj2 : j < (cells.take (off + n * sz) ++ List.replicate sz AV.any).length := (List.getElem?_eq_some_iff.1 hv).1
                    rw [List.length_append, List.length_take, List.length_replicate] at hj2
                    rw [List.getElem?_append_right (by simp_all), List.getElem?_replicate] at hv
                    split at hv
                    · cases hv
                      have : l.sh + j < cc.size := by omega
                      exact ⟨cc[l.sh + j], Array.getElem?_eq_getElem this, by simp only [VR]⟩
                    · cases hv
              · unfold isLeast at h1
                split at h1
                · rename_i a s
                  rw [Bool.and_eq_true, Nat.ble_eq] at h1
                  grind [Nat.eq_of_beq_eq_true, VR]
                · cases h1
          · cases h
        · cases h
      · cases h
    · cases h
  · exact callC_sound hS h hi hg hx rl m hR
theorem GR.size (hi : Inv ρ σ w) (hg : GR ρ G) : G.gl ≤ w.heap.size := by
  cases hgl : G.gl with
  | zero => exact Nat.zero_le _
  | succ g =>
    obtain ⟨c, hc⟩ := hg g (by omega)
    have := hi.blk _ _ hc
    exact this
theorem laidGo_sound (hi : Inv ρ σ w) (hg : GR ρ G) : ∀ (l : List (Nat × List AV)), laidGo G.gl σ l = true → ∀ x ∈ l, LaidIs w x
  | [], _, x, hx => by cases hx
  | y :: l, h, x, hx => by
    have h' : (bif Nat.ble (Nat.succ y.1) G.gl then (match σ.m.get y.1 with
      | some (.row cells _ true) => bif allFlat y.2 then (bif eqFlats cells y.2 then laidGo G.gl σ l else false) else false
      | _ => false) else false) = true := h
    rw [ite_cond] at h'
    split at h'
    · rename_i hlt
      rw [Nat.ble_eq] at hlt
      split at h'
      · rename_i cells e hb
        rw [ite_cond] at h'
        split at h'
        · rename_i hf
          rw [ite_cond] at h'
          split at h'
          · rename_i he
            have := eqFlats_eq he
            subst this
            rcases List.mem_cons.1 hx with rfl | hx
            · obtain ⟨cn, hc⟩ := hg x.1 hlt
              obtain ⟨c, fr, h1, h2, h3, h4, _⟩ := hi.row hb hc
              have h2' : c.size = cn := by simpa using h2
              have h3' : x.2.length ≤ cn := h3
              refine ⟨c, e, fr, h1, by rw [h2']; exact h3', fun i v hv => ?_⟩
              obtain ⟨z, hz, hzv⟩ := h4 i v hv
              simp only [Nat.zero_add] at hz
              grind [flat_any, allFlat_mem]
            · exact laidGo_sound hi hg l h' x hx
          · cases h'
        · cases h'
      · cases h'
    · cases h'
def eOf (σ : AHeap) (g : Nat) : TypeId :=
  match σ.m.get g with
  | some (.row _ e _) => e
  | _ => 0
theorem laidGo_get {gl : Nat} : ∀ (l : List (Nat × List AV)), laidGo gl σ l = true → ∀ x ∈ l, σ.m.get x.1 = some (.row x.2 (eOf σ x.1) true)
  | [], _, x, hx => by cases hx
  | y :: l, h, x, hx => by
    have h' : (bif Nat.ble (Nat.succ y.1) gl then (match σ.m.get y.1 with
      | some (.row cells _ true) => bif allFlat y.2 then (bif eqFlats cells y.2 then laidGo gl σ l else false) else false
      | _ => false) else false) = true := h
    rw [ite_cond] at h'
    split at h'
    · split at h'
      · rename_i cells e hb
        rw [ite_cond] at h'
        split at h'
        · rw [ite_cond] at h'
          split at h'
          · rename_i he
            have := eqFlats_eq he
            rcases List.mem_cons.1 hx with rfl | hx
            · unfold eOf; rw [hb, this]
            · exact laidGo_get l h' x hx
          · cases h'
        · cases h'
      · cases h'
    · cases h'
theorem call_sound {ih : IhC} (hS : Sound P G ih) {f : Nat} {args : List AV} {xs : Array Value} {σ' : AHeap} {v : AV} (h : callX P G ih f args σ = .ret v σ') (hi : Inv ρ σ w) (hg : GR ρ G) (hx : VRs ρ args xs.toList)
    (rl : Option Nat) (m : Nat) {R : Ending → World → Prop} (hR : ∀ (ρ' : Ren) (w' : World) (x : Value), Inv ρ' σ' w' → Stp ρ σ w ρ' σ' w' → VR ρ' v x → R (.returned x) w') : CallsIn (fenc rl) m P f xs w R := by
  unfold callX at h
  cases hk : G.ktb f args σ with
  | some u =>
    rw [hk] at h
    obtain ⟨uv, us⟩ := u
    dsimp only at h
    cases h
    refine fenc_calls rl (callsIn_wide.2 ?_)
    refine (hS.cx.ktb f args σ v σ' hk ρ w xs hi hg hx).mono fun e w' ⟨x, ρ', he, hv, i', s'⟩ => ?_
    subst he
    exact hR ρ' w' x i' s' hv
  | none =>
  rw [hk] at h
  dsimp only at h
  cases ht : G.tbl f args with
  | some u =>
    rw [ht] at h
    dsimp only at h
    rw [ite_cond] at h
    split at h
    · rename_i hf
      simp only [Bool.and_eq_true] at hf
      obtain ⟨hf1, hf2, hf3⟩ := hf
      cases h
      refine fenc_calls rl (callsIn_wide.2 ?_)
      refine (hS.cx.tbl f args v ht w xs (GR.size hi hg) ⟨hi.old.size, hi.old.same⟩ (laidGo_sound hi hg _ hf3) (allFlat_any hf1 hx)).mono fun e w' ⟨x, he, hv, hk⟩ => ?_
      subst he
      obtain ⟨i', s'⟩ := hk.inv hi
      exact hR ρ w' x i' s' (flat_any hf2 hv)
    · cases h
  | none =>
    rw [ht] at h
    dsimp only at h
    split at h
    · cases h
    rw [ite_cond] at h
    split at h
    · have h := noPanK_ret h
      unfold forkY at h
      rw [ite_cond] at h
      grind [callC_sound, fork_sound]
    · exact callC_sound hS h hi hg hx rl m hR
theorem call_pan {ih : IhC} (hS : Sound P G ih) {f : Nat} {args : List AV} {xs : Array Value} {σ' : AHeap} {v : AV} (h : callX P G ih f args σ = .pan v σ') (hi : Inv ρ σ w) (hg : GR ρ G) (hx : VRs ρ args xs.toList)
    (rl : Option Nat) (m : Nat) {R : Ending → World → Prop} (hR : ∀ (ρ' : Ren) (w' : World) (x : Value), Inv ρ' σ' w' → Stp ρ σ w ρ' σ' w' → VR ρ' v x → R (.panicked [{ v := x, recovered := false }]) w') : CallsIn (fenc rl) m P f xs w R := by
  unfold callX at h
  cases hk : G.ktb f args σ with
  | some u => grind
  | none =>
  rw [hk] at h
  dsimp only at h
  split at h
  · grind
  · split at h
    · cases h
    rw [ite_cond] at h
    split at h
    · exact absurd h (noPanK_pan _ _ _)
    · exact callC_gen hS h (fun n h => by cases h) hi hg hx rl m fun ρ' w' E i s ⟨x, hE, hv⟩ => by subst hE; exact hR ρ' w' x i s hv
theorem jump_none (e : Ex) (hp : isPan e = false) : (jumpOf e).isNone = wentOn e := by cases e <;> first | rfl | cases hp
theorem ExR.exOf {e : Ex} {E : Exit} (hp : isPan e = false) (h : ExR ρ e E) : E = Ev.exOf e := by cases e <;> first | exact h | cases hp
theorem round_post {l : Nat} {R : Ending → World → Prop} {e : Ex} (hp : isPan e = false) {a : Act} (h : ∃ v w', (Instr.endRound l (jumpOf e)).run P w = .ok v w' ∧ R (.returned v) w') : roundPost P l R (exOf e) a w := by
  cases e <;> first | exact h | cases hp
theorem round_sound {ih : IhC} (hS : Sound P G ih) {b : Pos} {l : Loc} {args : List AV} {xs : Array Value} {σ' : AHeap} {v : AV} (h : roundX ih b args σ = .ret v σ') (hi : Inv ρ σ w) (hg : GR ρ G) (hx : VRs ρ args xs.toList) (hl : ρ b = some l)
    (rl : Option Nat) (m : Nat) {R : Ending → World → Prop} (hR : ∀ (ρ' : Ren) (w' : World) (x : Value), Inv ρ' σ' w' → Stp ρ σ w ρ' σ' w' → VR ρ' v x → R (.returned x) w') :
    ∃ f tmps assign body, (Instr.yield l.blk xs).run P w = .ok (.round l.blk f tmps assign body) w ∧ RoundIn (fenc rl) m P l.blk f tmps assign body w R := by
  unfold roundX at h
  cases hb : σ.m.get b with
  | none => rw [hb] at h; cases h
  | some o =>
  rw [hb] at h
  cases o with
  | loop state pending tmps n params assign body df =>
    dsimp only at h
    cases hp : putAll n params args tmps with
    | none => rw [hp] at h; cases h
    | some t =>
    rw [hp] at h
    dsimp only at h
    obtain ⟨x, hh, fn, tmps', l', rfl, hdf, htm⟩ := hi.obj b _ l hb hl
    obtain ⟨hlen, ht⟩ := putAll_sound params args tmps t tmps' xs.toList hp htm hx
    refine ⟨fn, _, assign, body, run_yield hh (by simpa using hlen.symm), ?_⟩
    have hfold : ((params.toArray.zip xs).foldl (fun tmps (t, a) => tmps.setIfInBounds t a) tmps') = (params.zip xs.toList).foldl (fun tmps (t, a) => tmps.setIfInBounds t a) tmps' := by
      rw [← Array.foldl_toList, Array.toList_zip]
    refine roundIn_of_wpIn (fenc_fn rl _) ?_
    rw [fenc_in]
    dsimp only
    rw [hfold]
    cases hc : ih assign t n [] (some b) σ with
    | err k => rw [hc] at h; cases h
    | ok e t₁ d₁ σ₁ =>
    rw [hc] at h
    cases e with
    | normal =>
      cases d₁ with
      | nil =>
        dsimp only at h
        refine hS.run assign t n [] (some b) σ _ t₁ [] σ₁ hc ρ w _ (some l.blk) m _ hi hg ht rfl ⟨l, hl, rfl⟩ fun ρ₁ w₁ a₁ hi₁ st₁ ht₁ hd₁ E hE => ?_
        have hE : E = .normal := hE
        subst hE
        have hl₁ := st₁.le hi b l hl
        have hg₁ := hg.mono (st₁.le hi)
        show ∃ w₂, _
        cases hb₁ : σ₁.m.get b with
        | none => rw [hb₁] at h; cases h
        | some o₁ =>
        rw [hb₁] at h
        cases o₁ with
        | loop state₁ p₁ tmps₁ n₁ params₁ assign₁ body₁ df₁ =>
          cases state₁ with
          | ready =>
            dsimp only at h
            obtain ⟨x₁, hh₁, fn₁, tmps₁', l₁', rfl, hdf₁, htm₁⟩ := hi₁.obj b _ l hb₁ hl₁
            obtain ⟨inv₂, st₂⟩ := hi₁.putObj (o' := .loop .busy p₁ tmps₁ n₁ params₁ assign₁ body₁ df₁) hb₁ hl₁ rfl rfl (x := .loop { state := .busy, pending := p₁, fn := fn₁, tmps := tmps₁', params := params₁.toArray, assign := assign₁, body := body₁, defers := l₁'.blk }) ⟨fn₁, tmps₁', l₁', rfl, hdf₁, htm₁⟩
            refine ⟨_, run_beginRound hh₁ rfl, ?_⟩
            cases hc₂ : ih body t₁ n [] (some b) (σ₁.setObj b (.loop .busy p₁ tmps₁ n₁ params₁ assign₁ body₁ df₁)) with
            | err k => rw [hc₂] at h; cases h
            | ok e₂ t₂ d₂ σ₂ =>
            rw [hc₂] at h
            cases d₂ with
            | cons _ _ => cases h
            | nil =>
            dsimp only at h
            cases hpan : isPan e₂ with
            | true => rw [hpan] at h; cases h
            | false =>
            rw [hpan] at h
            simp only [cond_false] at h
            refine hS.run body t₁ n [] (some b) _ e₂ t₂ [] σ₂ hc₂ ρ₁ _ a₁ (some l.blk) m _ inv₂ hg₁ ht₁ hd₁ ⟨l, hl₁, rfl⟩ fun ρ₃ w₃ a₃ hi₃ st₃ ht₃ hd₃ E hE => ?_
            have hE := hE.exOf hpan
            subst hE
            have hl₃ := st₃.le inv₂ b l hl₁
            cases hb₃ : σ₂.m.get b with
            | none => rw [hb₃] at h; cases h
            | some o₃ =>
            rw [hb₃] at h
            cases o₃ with
            | loop state₃ p₃ tmps₃ n₃ params₃ assign₃ body₃ df₃ =>
              dsimp only at h
              cases h
              obtain ⟨x₃, hh₃, fn₃, tmps₃', l₃', rfl, hdf₃, htm₃⟩ := hi₃.obj b _ l hb₃ hl₃
              have hst : (if (jumpOf e₂).isNone then LoopState.ready else .done) = stateOf e₂ := by cases e₂ <;> first | rfl | cases hpan
              obtain ⟨inv₄, st₄⟩ := hi₃.putObj (o' := .loop (stateOf e₂) (jumpOf e₂) tmps₃ n₃ params₃ assign₃ body₃ df₃) hb₃ hl₃ rfl rfl
                (x := .loop { state := stateOf e₂, pending := jumpOf e₂, fn := fn₃, tmps := tmps₃', params := params₃.toArray, assign := assign₃, body := body₃, defers := l₃'.blk }) ⟨fn₃, tmps₃', l₃', rfl, hdf₃, htm₃⟩
              refine round_post hpan ⟨.bool (wentOn e₂), _, ?_, hR ρ₃ _ _ inv₄ (((st₁.trans st₂).trans st₃).trans st₄) (by simp only [VR])⟩
              rw [run_endRound _ hh₃, jump_none _ hpan]
              have hst' : (if wentOn e₂ = true then LoopState.ready else .done) = stateOf e₂ := by rw [← jump_none _ hpan]; exact hst
              rw [hst']
            | _ => cases h
          | _ => cases h
        | _ => cases h
      | cons _ _ => cases h
    | _ => cases h
  | _ => cases h
theorem eff_sound {ih : IhC} (hS : Sound P G ih) {o : Oper} {r : HR} {res : Result Next} {v : AV} {σ' : AHeap} (hi : Inv ρ σ w) (hg : GR ρ G) (ho : HOut P ρ σ w r res) (h : effX P G ih r = .ret v σ') (rl : Option Nat) (m : Nat) {a : Act} {next : Act → World → Prop} {Q : Exit → Act → World → Prop}
    (hn : ∀ (ρ' : Ren) (w' : World) (x : Value), Inv ρ' σ' w' → Stp ρ σ w ρ' σ' w' → VR ρ' v x → next (a.put o.dst x) w') : o.uponIn (fenc rl) m P a next Q res := by
  cases ho with
  | val hv hi' st =>
    cases h
    rw [Oper.uponIn_value]
    grind
  | skip hi' st =>
    cases h
    rw [Oper.uponIn_skip]
    exact hn _ _ _ hi' st VR_unit
  | enter hv =>
    rw [Oper.uponIn_enter]
    exact ⟨fenc_deep rl m, call_sound hS h hi hg hv rl _ fun ρ' w' x i s q => hn ρ' w' x i s q⟩
  | round hv hl hr =>
    subst hr
    obtain ⟨f, tmps, assign, body, h1, h2⟩ := round_sound hS h hi hg hv hl rl (m - 1) (R := fun
      | .returned v, w'' => next (a.put o.dst v) w''
      | .panicked chain, w'' => Q (.panic chain) a w''
      | .outgrown, _ => LetsOut Q) (fun ρ' w' x i s q => hn ρ' w' x i s q)
    rw [h1, Oper.uponIn_round]
    exact ⟨fenc_deep rl m, h2⟩
  | pan hv => cases h
theorem roundX_pan {ih : IhC} {l : Pos} {args : List AV} {v : AV} {σ' : AHeap} : roundX ih l args σ ≠ .pan v σ' := by
  intro h
  unfold roundX at h
  repeat' (first | (cases h; done) | (rw [ite_cond] at h) | split at h)
theorem eff_pan {ih : IhC} (hS : Sound P G ih) {o : Oper} {r : HR} {res : Result Next} {v : AV} {σ' : AHeap} (hi : Inv ρ σ w) (hg : GR ρ G) (ho : HOut P ρ σ w r res) (h : effX P G ih r = .pan v σ') (rl : Option Nat) (m : Nat) {a : Act} {next : Act → World → Prop} {Q : Exit → Act → World → Prop}
    (hn : ∀ (ρ' : Ren) (w' : World) (x : Value), Inv ρ' σ' w' → Stp ρ σ w ρ' σ' w' → VR ρ' v x → Q (.panic [{ v := x, recovered := false }]) a w') : o.uponIn (fenc rl) m P a next Q res := by
  cases ho with
  | val hv hi' st => cases h
  | skip hi' st => cases h
  | enter hv =>
    rw [Oper.uponIn_enter]
    exact ⟨fenc_deep rl m, call_pan hS h hi hg hv rl _ fun ρ' w' x i s q => hn ρ' w' x i s q⟩
  | round hv hl hr => exact absurd h roundX_pan
  | pan hv =>
    cases h
    grind [Oper.uponIn_panic, Stp.refl]
theorem eff_not_err' {ih : IhC} {r : HR} {v : AV} {σ' : AHeap} (h : effX P G ih r = .pan v σ') (n : Nat) : r ≠ .err n := by
  intro e; subst e; cases h
theorem one_pan {ih : IhC} (hS : Sound P G ih) {ev : Operand → Option AV} {o : Oper} {a : Act} {v : AV} {σ' : AHeap} (hi : Inv ρ σ w) (hg : GR ρ G) (hE : ER ρ ev a.eval o.op) (h : effX P G ih (opX P G ev σ o.op) = .pan v σ') (rl : Option Nat) (m : Nat) {next : Act → World → Prop} {Q : Exit → Act → World → Prop}
    (hn : ∀ (ρ' : Ren) (w' : World) (x : Value), Inv ρ' σ' w' → Stp ρ σ w ρ' σ' w' → VR ρ' v x → Q (.panic [{ v := x, recovered := false }]) a w') : o.wpIn (fenc rl) m P a w next Q := by
  have hne := eff_not_err' h
  refine ⟨fun f _ => fenc_fn rl f, ?_⟩
  rw [Oper.semAt_eq _ _ _ (op_no_defer hne)]
  exact eff_pan hS hi hg (op_sound hS.cx.ov hi hE rfl hne) h rl m hn
theorem eff_not_err {ih : IhC} {r : HR} {v : AV} {σ' : AHeap} (h : effX P G ih r = .ret v σ') (n : Nat) : r ≠ .err n := by
  intro e; subst e; cases h
theorem one_wpIn {ih : IhC} (hS : Sound P G ih) {ev : Operand → Option AV} {o : Oper} {a : Act} {v : AV} {σ' : AHeap} (hi : Inv ρ σ w) (hg : GR ρ G) (hE : ER ρ ev a.eval o.op) (h : effX P G ih (opX P G ev σ o.op) = .ret v σ') (rl : Option Nat) (m : Nat) {next : Act → World → Prop} {Q : Exit → Act → World → Prop}
    (hn : ∀ (ρ' : Ren) (w' : World) (x : Value), Inv ρ' σ' w' → Stp ρ σ w ρ' σ' w' → VR ρ' v x → next (a.put o.dst x) w') : o.wpIn (fenc rl) m P a w next Q := by
  have hne := eff_not_err h
  refine ⟨fun f _ => fenc_fn rl f, ?_⟩
  rw [Oper.semAt_eq _ _ _ (op_no_defer hne)]
  exact eff_sound hS hi hg (op_sound hS.cx.ov hi hE rfl hne) h rl m hn
theorem ops_sound {ih : IhC} (hS : Sound P G ih) {ops : Array Oper} {n m : Nat} {d : List DE} (rl : Option Nat) {Q : Exit → Act → World → Prop} {e : Ex} {t' : PT AV} {d' : List DE} {σ' : AHeap} :
    ∀ (l : List Oper) (i : Nat), ops.toList.drop i = l → ∀ (t : PT AV) (σ : AHeap) (ρ : Ren) (w : World) (a : Act), fixD d (opsX P G ih ops n d l t σ) = .ok e t' d' σ' → Inv ρ σ w → GR ρ G → TR ρ t n a.tmps → DR ρ d a.defers →
      (∀ (ρ' : Ren) (w' : World) (a' : Act), Inv ρ' σ' w' → Stp ρ σ w ρ' σ' w' → TR ρ' t' n a'.tmps → DR ρ' d' a'.defers → Qx Q ρ' e a' w') → wpOpsIn (fenc rl) m P ops Q (List.range' i l.length) a w
  | [], i, hl, t, σ, ρ, w, a, h, hi, hg, ht, hd, hQ => by
    have h' : CR.ok .normal t d σ = .ok e t' d' σ' := h
    cases h'
    exact hQ ρ w a hi (Stp.refl _ _ _) ht hd _ rfl
  | o :: l, i, hl, t, σ, ρ, w, a, h, hi, hg, ht, hd, hQ => by
    have hoi : ops[i]? = some o := by
      rw [← Array.getElem?_toList]
      have : (ops.toList.drop i)[0]? = some o := by rw [hl]; rfl
      simpa using this
    have hl' : ops.toList.drop (i + 1) = l := by
      rw [← List.drop_drop, hl]; rfl
    have h' : fixD d (oneX P G ih true ops n o t σ (opsX P G ih ops n d l)) = .ok e t' d' σ' := h
    unfold oneX at h'
    simp only [List.length_cons, List.range'_succ, wpOpsIn, hoi]
    cases hw : wantedA ops t o with
    | none => rw [hw] at h'; cases h'
    | some b =>
      rw [hw] at h'
      rw [wanted_sound hw ht]
      cases b with
      | false =>
        dsimp only at h'
        cases hp : putT t n o.dst unit with
        | none => rw [hp] at h'; cases h'
        | some t₁ =>
          rw [hp] at h'
          simp only [Bool.false_eq_true, if_false]
          exact ⟨fun f _ => fenc_fn rl f, ops_sound hS rl l (i + 1) hl' t₁ σ ρ w _ h' hi hg (ht.put hp VR_unit) (by rw [put_defers]; exact hd) hQ⟩
      | true =>
        dsimp only at h'
        cases he : effX P G ih (opX P G (evalT G t) σ o.op) with
        | err k => rw [he] at h'; cases h'
        | pan v σ₁ =>
          rw [he] at h'
          have h' : CR.ok (.pan v) t d σ₁ = .ok e t' d' σ' := h'
          cases h'
          simp only [if_true]
          refine one_pan hS hi hg (ER_of _ hg ht) he rl m fun ρ₁ w₁ x hi₁ st₁ hv => ?_
          have hle := st₁.le hi
          exact hQ ρ₁ w₁ a hi₁ st₁ (ht.mono hle) (hd.mono hle) _ ⟨x, rfl, hv⟩
        | ret v σ₁ =>
          rw [he] at h'
          dsimp only at h'
          cases hp : putT t n o.dst v with
          | none => rw [hp] at h'; cases h'
          | some t₁ =>
            rw [hp] at h'
            simp only [if_true]
            refine one_wpIn hS hi hg (ER_of _ hg ht) he rl m fun ρ₁ w₁ x hi₁ st₁ hv => ?_
            have hle := st₁.le hi
            exact ops_sound hS rl l (i + 1) hl' t₁ σ₁ ρ₁ w₁ _ h' hi₁ (hg.mono hle) ((ht.mono hle).put hp hv) (by rw [put_defers]; exact hd.mono hle)
              fun ρ' w' a' i' s' => hQ ρ' w' a' i' (st₁.trans s')
end
theorem place_mono {P : Program} {σ σ' : AHeap} (he : ∀ (b : Pos) (o : AObj), σ.m.get b = some o → σ'.m.get b = some o) {u : Option TypeId} {x : Option AV} {v : AV} (h : placeA P u σ x = some v) : placeA P u σ' x = some v := by
  unfold placeA at h ⊢
  grind
theorem readA_ext {P : Program} {ev : Operand → Option AV} {σ σ' : AHeap} {op : Op} {v : AV} (he : ∀ b o, σ.m.get b = some o → σ'.m.get b = some o) (h : readA P ev σ op = some v) : readA P ev σ' op = some v := by
  cases op with
  | load t x =>
    grind [readA]
  | lookup t x i ok =>
    simp only [readA] at h ⊢
    grind
  | call c =>
    grind [readA]
  | convert src dst x =>
    simp only [readA] at h ⊢
    split at h
    · grind
    · split at h
      · rw [ite_cond] at h ⊢
        split at h
        · cases h
        · rename_i hc; rw [if_neg hc]; exact place_mono he h
      · cases h
    · rw [ite_cond] at h ⊢
      split at h
      · rename_i hc; rw [if_pos hc]; exact place_mono he h
      · cases h
    · cases h
  | _ => exact h
theorem waits_iff {ops : Array Oper} {i j : Nat} : waits ops i j = true ↔ ∃ o, ops[i]? = some o ∧ ∃ e ∈ o.after, Region.binds .any e = true ∧ e.on = j := by
  unfold waits
  cases h : ops[i]? with
  | none => simp
  | some o =>
    simp only [Option.map_some, Option.getD_some, Option.some.injEq, exists_eq_left', Bool.and_eq_true, beq_iff_eq, Array.any_iff_exists]
    constructor
    · grind
    · rintro ⟨e, he, h1⟩
      obtain ⟨q, hq, rfl⟩ := Array.getElem_of_mem he
      grind
structure Shape (P : Program) (ops : Array Oper) (A : Array Nat) : Prop where
  dep : ∀ i j, waits ops i j = true → j < ops.size
  anc : ∀ i j, i < ops.size → j < ops.size → anc A i j = true → waits ops i j = true ∨ ∃ d, waits ops i d = true ∧ Ev.anc A d j = true
  uniq : ∀ i j k, dstOf ops i = some k → dstOf ops j = some k → i = j
  look : ∀ (i : Nat) (o : Oper) (j k : Nat), ops[i]? = some o → dstOf ops j = some k → k ∈ slotsOf ops o → Ev.anc A i j = true ∨ (looksMem P ops i = false ∧ (j = i ∨ Ev.anc A j i = true))
  dst : ∀ (i : Nat) (o : Oper), ops[i]? = some o → looksMem P ops i = true → ∃ k, o.dst = some k
theorem dstOf_lt {ops : Array Oper} {i k : Nat} (h : dstOf ops i = some k) : i < ops.size := by
  grind [dstOf]
theorem dstOf_eq {ops : Array Oper} {i : Nat} {o : Oper} (h : ops[i]? = some o) : dstOf ops i = o.dst := by simp [dstOf, h]
theorem hasB_eq (m i : Nat) : hasB m i = m.testBit i := by
  rw [Nat.testBit_eq_decide_div_mod_eq]
  show Nat.beq ((m >>> i) &&& 1) 1 = _
  grind [Nat.shiftRight_eq_div_pow, Nat.beq]
theorem low_eq (w : Nat) : Nat.beq (Nat.land w 1) 1 = w.testBit 0 := by
  have := hasB_eq w 0
  exact this
theorem bit_testBit (i j : Nat) : (bit i).testBit j = decide (i = j) := by
  show (1 <<< i).testBit j = _
  rw [Nat.one_shiftLeft, Nat.testBit_two_pow]
theorem lor_testBit (m k j : Nat) : (Nat.lor m k).testBit j = (m.testBit j || k.testBit j) := Nat.testBit_or m k j
theorem mem_maskOf {j : Nat} : ∀ {l : List Nat}, (maskOf l).testBit j = true ↔ j ∈ l
  | [] => by simp [maskOf]
  | i :: l => by
    show (Nat.lor (bit i) (maskOf l)).testBit j = true ↔ _
    rw [lor_testBit, bit_testBit, Bool.or_eq_true, mem_maskOf, List.mem_cons, decide_eq_true_eq]
    grind
theorem subB_true {m k : Nat} (h : subB m k = true) (j : Nat) (hj : m.testBit j = true) : k.testBit j = true := by
  have e : m &&& k = m := Nat.eq_of_beq_eq_true h
  grind
theorem subB_false {m k : Nat} (h : subB m k = false) : ∃ j, m.testBit j = true ∧ k.testBit j = false := by
  apply Classical.byContradiction
  intro hn
  have e : m &&& k = m := Nat.eq_of_testBit_eq fun j => by
    simp_all
  have : subB m k = true := by
    show Nat.beq (m &&& k) m = true
    simp_all
  simp_all
theorem orAll_testBit {j : Nat} : ∀ {L : List RA} {w : Nat}, (orAll L w).testBit j = true → ∃ d x, L[d]? = some x ∧ w.testBit d = true ∧ x.a.testBit j = true
  | [], w, h => by simp [orAll] at h
  | x :: L, w, h => by
    have h' : (Nat.lor (@Bool.rec (fun _ => Nat) 0 x.a (Nat.beq (Nat.land w 1) 1)) (orAll L (w >>> 1))).testBit j = true := h
    rw [lor_testBit, Bool.or_eq_true, low_eq] at h'
    rcases h' with h' | h'
    · cases hw : w.testBit 0 with
      | true => rw [hw] at h'; exact ⟨0, x, rfl, hw, h'⟩
      | false =>
        rw [hw] at h'
        have h'' : (0 : Nat).testBit j = true := h'
        simp at h''
    · obtain ⟨d, y, h1, h2, h3⟩ := orAll_testBit h'
      rw [Nat.testBit_shiftRight] at h2
      exact ⟨d + 1, y, by simpa using h1, by rw [Nat.add_comm]; exact h2, h3⟩
theorem rasGo_rows : ∀ (rows : List Row) (L : List RA), (rasGo rows L).map (·.r) = L.map (·.r) ++ rows
  | [], L => by show L.map (·.r) = _; simp
  | r :: rows, L => by
    show (rasGo rows (appN L [⟨r, Nat.lor r.w (orAll L r.w)⟩])).map (·.r) = _
    rw [rasGo_rows rows, appN_eq]
    simp
theorem ras_at {P : Program} {ops : Array Oper} {i : Nat} {o : Oper} (h : ops[i]? = some o) : ∃ x, (rasOf P ops)[i]? = some x ∧ x.r = rowF P ops o := by
  have e := rasGo_rows (mapN (rowF P ops) ops.toList) []
  rw [mapN_eq] at e
  have e' : ((rasOf P ops).map (·.r))[i]? = some (rowF P ops o) := by
    unfold rasOf
    rw [mapN_eq, e]
    simp [h]
  simp_all
theorem ras_to {P : Program} {ops : Array Oper} {i : Nat} {x : RA} (h : (rasOf P ops)[i]? = some x) : ∃ o, ops[i]? = some o ∧ x.r = rowF P ops o := by
  have e := rasGo_rows (mapN (rowF P ops) ops.toList) []
  rw [mapN_eq] at e
  have e' : ((rasOf P ops).map (·.r))[i]? = ops[i]?.map (rowF P ops) := by
    unfold rasOf
    rw [mapN_eq, e]
    simp
  grind
theorem row_w {P : Program} {ops : Array Oper} {i j : Nat} {o : Oper} (h : ops[i]? = some o) : (rowF P ops o).w.testBit j = true ↔ waits ops i j = true := by
  rw [waits_iff]
  show (maskOf _).testBit j = true ↔ _
  rw [mem_maskOf, List.mem_filterMap]
  simp_all
theorem allI_true {α : Type} {f : Nat → α → Bool} : ∀ {l : List α} {i : Nat}, allI f l i = true → ∀ (j : Nat) (x : α), l[j]? = some x → f (i + j) x = true
  | [], i, _, j, x, hx => by simp at hx
  | y :: l, i, h, j, x, hx => by
    have h' : @Bool.rec (fun _ => Bool) false (allI f l (i + 1)) (f i y) = true := h
    cases hf : f i y with
    | false => rw [hf] at h'; cases h'
    | true =>
      rw [hf] at h'
      cases j with
      | zero => simp at hx; subst hx; exact hf
      | succ j =>
        have := allI_true h' j x (by simpa using hx)
        rw [show i + (j + 1) = i + 1 + j by omega]
        exact this
theorem allI_zero {α : Type} {f : Nat → α → Bool} {l : List α} (h : allI f l 0 = true) (j : Nat) (x : α) (hx : l[j]? = some x) : f j x = true := by
  have := allI_true h j x hx
  simp_all
theorem bif_true {a b : Bool} (h : (bif a then b else false) = true) : a = true ∧ b = true := by cases a <;> simp_all
def ancA (P : Program) (ops : Array Oper) : Array Nat := ((rasOf P ops).map (·.a)).toArray
theorem ancA_at {P : Program} {ops : Array Oper} {i j : Nat} {x : RA} (h : (rasOf P ops)[i]? = some x) : anc (ancA P ops) i j = x.a.testBit j := by
  unfold anc ancA
  simp_all
theorem heavy_at {P : Program} {ops : Array Oper} {i : Nat} {o : Oper} (h : ops[i]? = some o) : isHeavy P ops i = (rowF P ops o).h := by unfold isHeavy; rw [h]; rfl
theorem looks_at {P : Program} {ops : Array Oper} {i : Nat} {o : Oper} (h : ops[i]? = some o) : looksMem P ops i = (rowF P ops o).k := by unfold looksMem; rw [h]; rfl
theorem pairQ_true {i j : Nat} {x y : RA} (h : pairQ i x j y = true) (hd : y.r.dm = maskOf y.r.d.toList) : pairF i x j y = true := by
  unfold pairQ at h
  cases hb : Nat.beq (Nat.land (Nat.lor x.r.dm x.r.s) y.r.dm) 0 with
  | false => rw [hb] at h; exact h
  | true =>
    have e : (x.r.dm ||| x.r.s) &&& y.r.dm = 0 := Nat.eq_of_beq_eq_true hb
    unfold pairF
    cases hy : y.r.d with
    | none => rfl
    | some k =>
      have hk : y.r.dm.testBit k = true := by rw [hd, hy]; exact mem_maskOf.2 (by simp)
      have h0 : ((x.r.dm ||| x.r.s) &&& y.r.dm).testBit k = false := by simp_all
      rw [Nat.testBit_and, hk, Bool.and_true, Nat.testBit_or, Bool.or_eq_false_iff] at h0
      grind [hasB_eq]
theorem shape_of {P : Program} {ops : Array Oper} (h : shapeF (rasOf P ops) ops.size = true) : Shape P ops (ancA P ops) := by
  have key : ∀ i o, ops[i]? = some o → ∃ x, (rasOf P ops)[i]? = some x ∧ x.r = rowF P ops o ∧ x.r.w < 2 ^ ops.size ∧ (x.r.k = true → x.r.d.isSome = true) ∧ subB x.a (Nat.lor x.r.w (orAll (rasOf P ops) x.r.w)) = true ∧
      ∀ j y, (rasOf P ops)[j]? = some y → pairF i x j y = true := by
    intro i o ho
    obtain ⟨x, hx, hr⟩ := ras_at (P := P) ho
    have h1 := allI_zero h i x hx
    obtain ⟨k1, h1⟩ := bif_true h1
    obtain ⟨k2, h1⟩ := bif_true h1
    obtain ⟨k3, h1⟩ := bif_true h1
    refine ⟨x, hx, hr, ?_, fun hk => ?_, k3, fun j y hy => pairQ_true (allI_zero h1 j y hy) (by obtain ⟨o', _, hr'⟩ := ras_to hy; rw [hr']; rfl)⟩
    · rw [blt_iff] at k1
      have : bit ops.size = 2 ^ ops.size := Nat.one_shiftLeft _
      omega
    simp_all
  have pair : ∀ i o j o' k, ops[i]? = some o → ops[j]? = some o' → o'.dst = some k → (o.dst = some k → j = i) ∧ (k ∈ slotsOf ops o → anc (ancA P ops) i j = true ∨ (looksMem P ops i = false ∧ (j = i ∨ anc (ancA P ops) j i = true))) := by
    intro i o j o' k ho ho' hk
    obtain ⟨x, hx, hr, _, _, _, hp⟩ := key i o ho
    obtain ⟨y, hy, hr'⟩ := ras_at (P := P) ho'
    have h1 := hp j y hy
    unfold pairF at h1
    have hd : y.r.d = some k := by rw [hr']; exact hk
    rw [hd] at h1
    have h1' : (bif (bif hasB x.r.dm k then Nat.beq j i else true) then (bif hasB x.r.s k then (bif hasB x.a j then true else (bif x.r.k then false else (bif Nat.beq j i then true else hasB y.a i))) else true) else false) = true := h1
    obtain ⟨g1, g2⟩ := bif_true h1'
    refine ⟨fun hd' => ?_, fun hs => ?_⟩
    · have : hasB x.r.dm k = true := by
        rw [hasB_eq, hr]
        show (maskOf o.dst.toList).testBit k = true
        rw [mem_maskOf, hd']; simp
      simp_all
    · have : hasB x.r.s k = true := by
        rw [hasB_eq, hr]
        exact mem_maskOf.2 hs
      rw [this] at g2
      simp only [cond_true] at g2
      rw [ancA_at hx, ancA_at hy, looks_at (P := P) ho, ← hr]
      cases ha : hasB x.a j with
      | true => rw [hasB_eq] at ha; exact .inl ha
      | false =>
        rw [ha] at g2
        simp only [cond_false] at g2
        cases hk' : x.r.k with
        | true => simp_all
        | false =>
          rw [hk'] at g2
          simp only [cond_false] at g2
          cases hb : Nat.beq j i with
          | true => simp_all
          | false => rw [hb] at g2; rw [hasB_eq] at g2; simp_all
  refine ⟨fun i j hw => ?_, fun i j hi hj ha => ?_, fun i j k hi hj => ?_, fun i o j k ho hj hk => ?_, fun i o ho hl => ?_⟩
  · obtain ⟨o, ho, _⟩ := waits_iff.1 hw
    obtain ⟨x, hx, hr, hlt, _⟩ := key i o ho
    have : x.r.w.testBit j = true := by rw [hr]; exact (row_w ho).2 hw
    apply Classical.byContradiction
    grind [Nat.testBit_lt_two_pow, Nat.lt_of_lt_of_le, Nat.pow_le_pow_right]
  · have ho : ops[i]? = some ops[i] := Array.getElem?_eq_getElem hi
    obtain ⟨x, hx, hr, _, _, hs, _⟩ := key i _ ho
    rw [ancA_at hx] at ha
    have h1 := subB_true hs j ha
    rw [lor_testBit, Bool.or_eq_true] at h1
    rcases h1 with h1 | h1
    · rw [hr] at h1; exact .inl ((row_w ho).1 h1)
    · obtain ⟨d, y, hy, h2, h3⟩ := orAll_testBit h1
      rw [hr] at h2
      exact .inr ⟨d, (row_w ho).1 h2, by rw [ancA_at hy]; exact h3⟩
  · have hi' := dstOf_lt hi
    have hj' := dstOf_lt hj
    have ho : ops[i]? = some ops[i] := Array.getElem?_eq_getElem hi'
    grind [dstOf_eq]
  · grind [dstOf_lt, dstOf_eq]
  · obtain ⟨x, hx, hr, _, hd, _⟩ := key i o ho
    rw [looks_at (P := P) ho, ← hr] at hl
    have := hd hl
    rw [hr] at this
    exact Option.isSome_iff_exists.1 this
def Ord (ops : Array Oper) : List Nat → Prop
  | [] => True
  | i :: r => (∀ j, waits ops i j = true → j ∈ r) ∧ Ord ops r
structure PlanHead (P : Program) (ops : Array Oper) (A : Array Nat) (i : Nat) (rc : List Nat) (done : List Nat) : Prop where
  lt : i < ops.size
  new : i ∉ done
  dep : ∀ j, waits ops i j = true → j ∈ done
  again : isHeavy P ops i = true → ∀ j ∈ done, looksMem P ops j = true → anc A i j = true ∨ j ∈ rc
  alone : isHeavy P ops i = true → ∀ j, j < ops.size → j ∉ done → j ≠ i → ∃ e, waits ops j e = true ∧ e ∉ done
def PlanP (P : Program) (ops : Array Oper) (A : Array Nat) : List (Nat × List Nat) → List Nat → Prop
  | [], done => ∀ i, i < ops.size → i ∈ done
  | (i, rc) :: l, done => PlanHead P ops A i rc done ∧ PlanP P ops A l (i :: done)
theorem check_plan {P : Program} {ops : Array Oper} : ∀ (p : List (Nat × List Nat)) (D : Nat) (done : List Nat), (∀ j, D.testBit j = true ↔ j ∈ done) → checkF (rasOf P ops) ops.size p D = true → PlanP P ops (ancA P ops) p done
  | [], D, done, hD, h => fun i hi => by
    have e : D = bit ops.size - 1 := Nat.eq_of_beq_eq_true h
    rw [← hD, e, show bit ops.size = 2 ^ ops.size from Nat.one_shiftLeft _, Nat.testBit_two_pow_sub_one]
    simp_all
  | (i, rc) :: l, D, done, hD, h => by
    have h' : Option.rec (motive := fun _ => Bool) false (fun x => bif headF (rasOf P ops) i rc D x then checkF (rasOf P ops) ops.size l (Nat.lor D (bit i)) else false) (nth (rasOf P ops) i) = true := h
    rw [nth_eq] at h'
    cases hx : (rasOf P ops)[i]? with
    | none => simp_all
    | some x =>
    rw [hx] at h'
    obtain ⟨h1, h2⟩ := bif_true h'
    obtain ⟨o, ho, hr⟩ := ras_to hx
    have hlt := (Array.getElem?_eq_some_iff.1 ho).1
    unfold headF at h1
    cases hi : hasB D i with
    | true => simp_all
    | false =>
    rw [hi] at h1
    obtain ⟨hw, h3⟩ := bif_true h1
    refine ⟨⟨hlt, fun hm => ?_, fun j hj => ?_, fun hh j hj hl => ?_, fun hh j hj hn hne => ?_⟩, check_plan l _ (i :: done) (fun j => ?_) h2⟩
    · rw [hasB_eq] at hi
      grind
    · grind [subB_true, row_w]
    · rw [heavy_at (P := P) ho, ← hr] at hh
      rw [hh] at h3
      have hjlt : ∃ o', ops[j]? = some o' := by
        cases ho' : ops[j]? with
        | some o' => exact ⟨o', rfl⟩
        | none => unfold looksMem at hl; simp_all
      obtain ⟨o', ho'⟩ := hjlt
      obtain ⟨y, hy, hr'⟩ := ras_at (P := P) ho'
      have h4 := allI_zero h3 j y hy
      have hdj : hasB D j = true := by rw [hasB_eq]; exact (hD j).2 hj
      rw [hdj] at h4
      simp only [cond_true] at h4
      rw [ancA_at hx]
      cases ha : hasB x.a j with
      | true => rw [hasB_eq] at ha; exact .inl ha
      | false =>
        rw [ha] at h4
        rw [looks_at (P := P) ho', ← hr'] at hl
        rw [hl] at h4
        simp only [cond_true, cond_false] at h4
        rw [hasB_eq] at h4
        exact .inr (mem_maskOf.1 h4)
    · rw [heavy_at (P := P) ho, ← hr] at hh
      rw [hh] at h3
      have ho' : ops[j]? = some ops[j] := Array.getElem?_eq_getElem hj
      obtain ⟨y, hy, hr'⟩ := ras_at (P := P) ho'
      have h4 := allI_zero h3 j y hy
      have hdj : hasB D j = false := by
        grind [hasB_eq]
      rw [hdj] at h4
      simp only [cond_false] at h4
      cases hb : Nat.beq j i with
      | true => simp_all
      | false =>
        rw [hb] at h4
        simp only [cond_false] at h4
        grind [subB_false, row_w]
    · rw [lor_testBit, bit_testBit, Bool.or_eq_true, hD, List.mem_cons, decide_eq_true_eq]
      grind
theorem fast_ok {P : Program} {ops : Array Oper} (h : fastOK P ops = true) : Shape P ops (ancA P ops) ∧ PlanP P ops (ancA P ops) (plan P ops) [] := by
  obtain ⟨h1, h2⟩ := bif_true h
  grind [shape_of, check_plan]
def Li (listed : Array Bool) (i : Nat) : Prop := listed.getD i false = true
theorem Li.lt {listed : Array Bool} {i : Nat} (h : Li listed i) : i < listed.size := by
  grind [Li]
theorem not_Li {listed : Array Bool} {i : Nat} (hi : i < listed.size) : listed.getD i true = false ↔ ¬ Li listed i := by
  simp [Li, Array.getD_eq_getD_getElem?, hi]
theorem Li_set {listed : Array Bool} {i j : Nat} (hi : i < listed.size) : Li (listed.setIfInBounds i true) j ↔ j = i ∨ Li listed j := by
  unfold Li
  simp only [Array.getD_eq_getD_getElem?, Array.getElem?_setIfInBounds]
  grind
def blk : AV → Option Pos
  | .ptr b _ => some b
  | .slice b _ _ _ => some b
  | .map b => some b
  | _ => none
theorem blk_of (mk : Mk) (b : Pos) : blk (mk.of b) = some b := by cases mk <;> rfl
def PendV (P : Program) (G : Cx) (t : PT AV) (σ : AHeap) (ρ : Ren) (lo : Nat) (ti : PT AV) (o : Oper) : Prop :=
  match kindOf P o.op with
  | .pure => ∃ v, pureA P (evalT G ti) o.op = some v ∧ ∀ k, o.dst = some k → t.get (posOf k) = some v
  | .read => ∃ v, readA P (evalT G ti) σ o.op = some v ∧ ∀ k, o.dst = some k → t.get (posOf k) = some v
  | .alloc => ∃ ob mk b, allocA P (evalT G ti) o.op = some (ob, mk) ∧ σ.m.get b = some ob ∧ ρ b = none ∧ lo ≤ b.num ∧ b.num < σ.next.num ∧ ∀ k, o.dst = some k → t.get (posOf k) = some (mk.of b)
  | .heavy => False
def Pend (P : Program) (G : Cx) (ops : Array Oper) (A : Array Nat) (t₀ t : PT AV) (σ : AHeap) (ρ : Ren) (lo : Nat) (i : Nat) : Prop :=
  ∃ o ti, ops[i]? = some o ∧
    (∀ k ∈ slotsOf ops o, ∀ j, anc A i j = true → dstOf ops j = some k → ti.get (posOf k) = t.get (posOf k)) ∧
    (∀ k ∈ slotsOf ops o, (∀ j, dstOf ops j = some k → anc A i j = false) → ti.get (posOf k) = t₀.get (posOf k)) ∧
    ∃ bw, wantedA ops ti o = some bw ∧ (bw = false → ∀ k, o.dst = some k → t.get (posOf k) = some unit) ∧ (bw = true → PendV P G t σ ρ lo ti o)
section
variable {P : Program} {G : Cx} {ops : Array Oper} {A : Array Nat} {t₀ t t₁ : PT AV} {σ σ₁ : AHeap} {ρ ρ₁ : Ren} {lo i : Nat}
theorem guard_slot {o : Oper} {j : Nat} {want : Bool} {k : Nat} (hg : o.guard = some (j, want)) (hk : (ops[j]?).bind (·.dst) = some k) : k ∈ slotsOf ops o := by
  unfold slotsOf
  rw [hg]
  simp [hk]
theorem operand_slot {o : Oper} {k : Nat} (h : Operand.tmp k ∈ o.op.operands) : k ∈ slotsOf ops o := by
  unfold slotsOf
  refine List.mem_append_left _ (List.mem_filterMap.2 ⟨.tmp k, by simpa using h, rfl⟩)
theorem wantedA_congr {o : Oper} {ti tj : PT AV} (h : ∀ k ∈ slotsOf ops o, ti.get (posOf k) = tj.get (posOf k)) : wantedA ops ti o = wantedA ops tj o := by
  grind [wantedA, guard_slot]
theorem Pend.agree (hp : Pend P G ops A t₀ t σ ρ lo i) (h : ∀ k, (dstOf ops i = some k ∨ ∃ j, anc A i j = true ∧ dstOf ops j = some k) → t₁.get (posOf k) = t.get (posOf k)) : Pend P G ops A t₀ t₁ σ ρ lo i := by
  obtain ⟨o, ti, ho, h1, h2, bw, h3, h4, h5⟩ := hp
  have hd : ∀ k, o.dst = some k → t₁.get (posOf k) = t.get (posOf k) := fun k hk => h k (.inl (by rw [dstOf_eq ho]; exact hk))
  refine ⟨o, ti, ho, fun k hk j ha hj => (h1 k hk j ha hj).trans (h k (.inr ⟨j, ha, hj⟩)).symm, h2, bw, h3, fun hb k hk => (hd k hk).trans (h4 hb k hk), fun hb => ?_⟩
  grind [PendV]
theorem Pend.grow (hp : Pend P G ops A t₀ t σ ρ lo i) (h : ∀ b o, σ.m.get b = some o → σ₁.m.get b = some o) (hn : σ.next.num ≤ σ₁.next.num) : Pend P G ops A t₀ t σ₁ ρ lo i := by
  obtain ⟨o, ti, ho, h1, h2, bw, h3, h4, h5⟩ := hp
  refine ⟨o, ti, ho, h1, h2, bw, h3, h4, fun hb => ?_⟩
  grind [PendV, readA_ext]
theorem Pend.ren (hp : Pend P G ops A t₀ t σ ρ lo i) (hs : Shape P ops A) (h : ∀ b, (∃ o k v, ops[i]? = some o ∧ kindOf P o.op = .alloc ∧ dstOf ops i = some k ∧ t.get (posOf k) = some v ∧ blk v = some b) → ρ b = none → ρ₁ b = none) : Pend P G ops A t₀ t σ ρ₁ lo i := by
  obtain ⟨o, ti, ho, h1, h2, bw, h3, h4, h5⟩ := hp
  refine ⟨o, ti, ho, h1, h2, bw, h3, h4, fun hb => ?_⟩
  have := h5 hb
  unfold PendV at this ⊢
  split at this
  · exact this
  · exact this
  · rename_i hk
    obtain ⟨ob, mk, b, g1, g2, g3, g4, g5, g6⟩ := this
    obtain ⟨k, hkd⟩ := hs.dst i o ho (by simp [looksMem, looksK, ho, hk])
    grind [dstOf_eq, blk_of]
  · exact this
theorem Pend.again (hp : Pend P G ops A t₀ t σ ρ lo i) (hs : Shape P ops A) (h : ∀ k, (dstOf ops i = some k ∨ ∃ j, anc A i j = true ∧ dstOf ops j = some k) → t₁.get (posOf k) = t.get (posOf k))
    (h0 : ∀ k, (∀ j, dstOf ops j ≠ some k) → t₁.get (posOf k) = t₀.get (posOf k)) (hstill : looksMem P ops i = true → stillX P G ops t₁ σ₁ i = true)
    (hr : ∀ b : Pos, b.num < σ.next.num → ρ₁ b = ρ b) (hn : σ.next.num ≤ σ₁.next.num) : Pend P G ops A t₀ t₁ σ₁ ρ₁ lo i := by
  have hp₁ := hp.agree h
  obtain ⟨o, ti, ho, h1, h2, bw, h3, h4, h5⟩ := hp₁
  cases hb : bw with
  | false => exact ⟨o, ti, ho, h1, h2, bw, h3, h4, fun hb' => absurd hb' (by rw [hb]; simp)⟩
  | true =>
    have hv := h5 hb
    subst hb
    cases hk : kindOf P o.op with
    | pure =>
      refine ⟨o, ti, ho, h1, h2, true, h3, h4, fun _ => ?_⟩
      grind [PendV]
    | heavy => unfold PendV at hv; simp_all
    | read =>
      have hl : looksMem P ops i = true := by simp [looksMem, looksK, ho, hk]
      have hsl : ∀ k ∈ slotsOf ops o, t₁.get (posOf k) = ti.get (posOf k) := fun k hks => by
        by_cases hw : ∃ j, dstOf ops j = some k
        · obtain ⟨j, hj⟩ := hw
          rcases hs.look i o j k ho hj hks with ha | ⟨hno, _⟩
          · grind
          simp_all
        simp_all
      have hst := hstill hl
      unfold stillX at hst
      rw [ho] at hst
      dsimp only at hst
      rw [wantedA_congr hsl, h3] at hst
      dsimp only at hst
      refine ⟨o, t₁, ho, fun _ _ _ _ _ => rfl, fun k hks hj => (hsl k hks).trans (h2 k hks hj), true, by rw [wantedA_congr hsl]; exact h3, fun h' => (by cases h'), fun _ => ?_⟩
      grind [PendV, beqA_eq]
    | alloc =>
      have hl : looksMem P ops i = true := by simp [looksMem, looksK, ho, hk]
      have hsl : ∀ k ∈ slotsOf ops o, t₁.get (posOf k) = ti.get (posOf k) := fun k hks => by
        by_cases hw : ∃ j, dstOf ops j = some k
        · obtain ⟨j, hj⟩ := hw
          rcases hs.look i o j k ho hj hks with ha | ⟨hno, _⟩
          · grind
          simp_all
        simp_all
      have hst := hstill hl
      unfold stillX at hst
      rw [ho] at hst
      dsimp only at hst
      rw [wantedA_congr hsl, h3] at hst
      dsimp only at hst
      refine ⟨o, t₁, ho, fun _ _ _ _ _ => rfl, fun k hks hj => (hsl k hks).trans (h2 k hks hj), true, by rw [wantedA_congr hsl]; exact h3, fun h' => (by cases h'), fun _ => ?_⟩
      unfold PendV at hv ⊢
      rw [hk] at hv ⊢
      dsimp only at hv ⊢
      obtain ⟨ob, mk, b, g1, g2, g3, g4, g5, g6⟩ := hv
      split at hst
      · rename_i k hkd
        have g6' := g6 k hkd
        rw [g6'] at hst
        dsimp only at hst
        rw [hk] at hst
        dsimp only at hst
        have hrb : ρ₁ b = none := by simp_all
        split at hst
        · rename_i cs e b' ha hvb
          split at hst
          · rename_i cs' e' hbb
            rw [Bool.and_eq_true] at hst
            have e1 := Nat.eq_of_beq_eq_true hst.1
            have e2 := beqL_eq hst.2
            subst e1; subst e2
            have hbb' : b' = b := by cases mk <;> simp [Mk.of] at hvb <;> exact hvb.symm
            grind [Mk.of]
          · cases hst
        · rename_i cs e n c b' n' c' ha hvb
          split at hst
          · rename_i cs' e' hbb
            simp only [Bool.and_eq_true] at hst
            have e1 := Nat.eq_of_beq_eq_true hst.1.1.1
            have e2 := beqL_eq hst.1.1.2
            have e3 := Nat.eq_of_beq_eq_true hst.1.2
            have e4 := Nat.eq_of_beq_eq_true hst.2
            subst e1; subst e2; subst e3; subst e4
            have hmk : b' = b ∧ mk = .slice n c := by cases mk <;> simp [Mk.of] at hvb <;> (simp_all)
            grind
          · cases hst
        · cases hst
      · cases hst
end
theorem putT_facts {t t₁ : PT AV} {n : Nat} {dst : Option Nat} {v : AV} (h : putT t n dst v = some t₁) :
    (∀ k, dst ≠ some k → t₁.get (posOf k) = t.get (posOf k)) ∧ (∀ k, dst = some k → k < n ∧ t₁.get (posOf k) = some v) := by
  cases dst with
  | none => cases h; simp_all
  | some j =>
    obtain ⟨hj, rfl⟩ := putT_some h
    refine ⟨fun k hk => PT.get_put_other _ _ _ _ (fun e => hk (by rw [posOf_inj e])), fun k hk => ?_⟩
    cases hk
    exact ⟨hj, PT.get_put_same _ _ _⟩
theorem put_at {a : Act} {dst : Option Tmp} {x : Value} : (∀ k, dst ≠ some k → (a.put dst x).tmps.getD k undef = a.tmps.getD k undef) ∧ (∀ k, dst = some k → k < a.tmps.size → (a.put dst x).tmps.getD k undef = x) ∧ (a.put dst x).tmps.size = a.tmps.size := by
  cases dst with
  | none => exact ⟨fun _ _ => rfl, (fun k hk => by cases hk), rfl⟩
  | some j =>
    refine ⟨fun k hk => ?_, fun k hk hlt => ?_, by simp [Act.put]⟩
    · have : j ≠ k := fun e => hk (by rw [e])
      simp [Act.put, Array.getD_eq_getD_getElem?, Array.getElem?_setIfInBounds, this]
    · cases hk
      simp [Act.put, Array.getD_eq_getD_getElem?, Array.getElem?_setIfInBounds, hlt]
theorem mem_cons_cases {α : Type} {x y : α} {l : List α} (h : x ∈ y :: l) : x = y ∨ x ∈ l := List.mem_cons.1 h
structure J (P : Program) (G : Cx) (ih : IhC) (ops : Array Oper) (A : Array Nat) (n : Nat) (d : List DE) (fin : CR) (ρ₀ : Ren) (σ₀ : AHeap) (w₀ : World) (t₀ : PT AV)
    (l : List (Nat × List Nat)) (done : List Nat) (t : PT AV) (σ : AHeap) (listed : Array Bool) (ρ : Ren) (w : World) (a : Act) : Prop where
  run : planX P G ih ops n d l t σ = fin
  ok : PlanP P ops A l done
  inv : Inv ρ σ w
  stp : Stp ρ₀ σ₀ w₀ ρ σ w
  dr : DR ρ d a.defers
  gr : GR ρ G
  tsz : a.tmps.size = n
  lsz : listed.size = ops.size
  bnd : ∀ i ∈ done, i < ops.size
  ord : Ord ops done
  sub : ∀ i, Li listed i → i ∈ done
  heavy : ∀ i ∈ done, isHeavy P ops i = true → Li listed i
  closed : ∀ i j, j < ops.size → Li listed i → anc A i j = true → Li listed j
  dclosed : ∀ i j, j < ops.size → i ∈ done → anc A i j = true → j ∈ done
  dlt : ∀ i ∈ done, ∀ k, dstOf ops i = some k → k < n
  slotS : ∀ i k v, Li listed i → dstOf ops i = some k → t.get (posOf k) = some v → VR ρ v (a.tmps.getD k undef)
  slot0 : ∀ k v, (∀ i, Li listed i → dstOf ops i ≠ some k) → t₀.get (posOf k) = some v → k < n ∧ VR ρ v (a.tmps.getD k undef)
  same : ∀ k, (∀ i ∈ done, dstOf ops i ≠ some k) → t.get (posOf k) = t₀.get (posOf k)
  pend : ∀ i ∈ done, ¬ Li listed i → Pend P G ops A t₀ t σ ρ σ₀.next.num i
  apart : ∀ i j o o' k k' v v' b, i ∈ done → j ∈ done → ¬ Li listed i → ¬ Li listed j → ops[i]? = some o → ops[j]? = some o' → kindOf P o.op = .alloc → kindOf P o'.op = .alloc →
    dstOf ops i = some k → dstOf ops j = some k' → t.get (posOf k) = some v → t.get (posOf k') = some v' → blk v = some b → blk v' = some b → i = j
section
variable {P : Program} {G : Cx} {ih : IhC} {ops : Array Oper} {A : Array Nat} {n : Nat} {d : List DE} {fin : CR} {ρ₀ : Ren} {σ₀ : AHeap} {w₀ : World} {t₀ : PT AV}
variable {l : List (Nat × List Nat)} {done : List Nat} {t : PT AV} {σ : AHeap} {listed : Array Bool} {ρ : Ren} {w : World} {a : Act}
theorem anc_done (hs : Shape P ops A) {i : Nat} (hi : i < ops.size) (hw : ∀ j, waits ops i j = true → j ∈ done) (hd : ∀ i j, j < ops.size → i ∈ done → anc A i j = true → j ∈ done) : ∀ j, j < ops.size → anc A i j = true → j ∈ done := fun j hj ha => by
  rcases hs.anc i j hi hj ha with h | ⟨q, h1, h2⟩
  · exact hw j h
  grind
theorem anc_listed (hs : Shape P ops A) {i : Nat} (hi : i < ops.size) (hw : ∀ j, waits ops i j = true → Li listed j) (hd : ∀ i j, j < ops.size → Li listed i → anc A i j = true → Li listed j) : ∀ j, j < ops.size → anc A i j = true → Li listed j := fun j hj ha => by
  rcases hs.anc i j hi hj ha with h | ⟨q, h1, h2⟩
  · exact hw j h
  grind
theorem J.head_slots (hs : Shape P ops A) (hj : J P G ih ops A n d fin ρ₀ σ₀ w₀ t₀ l done t σ listed ρ w a) {i : Nat} {o : Oper} (ho : ops[i]? = some o) (hn : i ∉ done) :
    ∀ k ∈ slotsOf ops o, (∀ j, dstOf ops j = some k → anc A i j = false) → t.get (posOf k) = t₀.get (posOf k) := fun k hk hno => by
  refine hj.same k fun j hjd hjk => ?_
  rcases hs.look i o j k ho hjk hk with h | ⟨_, h | h⟩
  · simp_all
  · subst h; exact hn hjd
  · exact hn (hj.dclosed j i (Array.getElem?_eq_some_iff.1 ho).1 hjd h)
theorem J.look (hs : Shape P ops A) (hj : J P G ih ops A n d fin ρ₀ σ₀ w₀ t₀ l done t σ listed ρ w a) {i : Nat} {o : Oper} {ti : PT AV} (ho : ops[i]? = some o) (hn : ¬ Li listed i) (hr : ∀ j, j < ops.size → anc A i j = true → Li listed j)
    (h1 : ∀ k ∈ slotsOf ops o, ∀ j, anc A i j = true → dstOf ops j = some k → ti.get (posOf k) = t.get (posOf k)) (h2 : ∀ k ∈ slotsOf ops o, (∀ j, dstOf ops j = some k → anc A i j = false) → ti.get (posOf k) = t₀.get (posOf k)) :
    ∀ k ∈ slotsOf ops o, ∀ v, ti.get (posOf k) = some v → k < n ∧ VR ρ v (a.tmps.getD k undef) := fun k hk v hv => by
  by_cases hw : ∃ j, dstOf ops j = some k ∧ anc A i j = true
  · obtain ⟨j, hjk, ha⟩ := hw
    have hL := hr j (dstOf_lt hjk) ha
    rw [h1 k hk j ha hjk] at hv
    exact ⟨hj.dlt j (hj.sub j hL) k hjk, hj.slotS j k v hL hjk hv⟩
  · have hno : ∀ j, dstOf ops j = some k → anc A i j = false := fun j hjk => by
      simp_all
    rw [h2 k hk hno] at hv
    refine hj.slot0 k v (fun j hL hjk => ?_) hv
    rcases hs.look i o j k ho hjk hk with h | ⟨_, h | h⟩
    · simp_all
    · subst h; exact hn hL
    · exact hn (hj.closed j i (Array.getElem?_eq_some_iff.1 ho).1 hL h)
theorem look_ER {ti : PT AV} {o : Oper} (hg : GR ρ G) (h : ∀ k ∈ slotsOf ops o, ∀ v, ti.get (posOf k) = some v → k < n ∧ VR ρ v (a.tmps.getD k undef)) : ER ρ (evalT G ti) a.eval o.op := fun x hx v hv => by
  cases x with
  | tmp k => exact (h k (operand_slot hx) v hv).2
  | const c => exact eval_sound (t := .leaf) (n := a.tmps.size) hg ⟨rfl, fun k v hk => by rw [PT.get_leaf] at hk; cases hk⟩ hv
  | global g => exact eval_sound (t := .leaf) (n := a.tmps.size) hg ⟨rfl, fun k v hk => by rw [PT.get_leaf] at hk; cases hk⟩ hv
  | func f => exact eval_sound (t := .leaf) (n := a.tmps.size) hg ⟨rfl, fun k v hk => by rw [PT.get_leaf] at hk; cases hk⟩ hv
theorem look_wanted {ti : PT AV} {o : Oper} {b : Bool} (hsz : a.tmps.size = n) (h : ∀ k ∈ slotsOf ops o, ∀ v, ti.get (posOf k) = some v → k < n ∧ VR ρ v (a.tmps.getD k undef)) (hw : wantedA ops ti o = some b) : Region.wanted o (yielded ops a.tmps) = b :=
  wanted_at hw fun j want k hg hk v hv => by
    have := h k (guard_slot hg hk) v hv
    rw [hsz]; exact this
theorem J.ahead (hs : Shape P ops A) {i : Nat} {rc : List Nat} (hj : J P G ih ops A n d fin ρ₀ σ₀ w₀ t₀ ((i, rc) :: l) done t σ listed ρ w a) (hl : isHeavy P ops i = false) {o : Oper} (ho : ops[i]? = some o) {v : AV} {t₁ : PT AV} {σ₁ : AHeap}
    (hp : putT t n o.dst v = some t₁) (hrun : planX P G ih ops n d l t₁ σ₁ = fin) (hinv : Inv ρ σ₁ w) (hst : Stp ρ σ w ρ σ₁ w) (hget : ∀ b o, σ.m.get b = some o → σ₁.m.get b = some o)
    (hblk : ∀ b, blk v = some b → kindOf P o.op = .alloc → σ.next.num ≤ b.num) (hpend : Pend P G ops A t₀ t₁ σ₁ ρ σ₀.next.num i) : J P G ih ops A n d fin ρ₀ σ₀ w₀ t₀ l (i :: done) t₁ σ₁ listed ρ w a := by
  obtain ⟨hh, hok⟩ := hj.ok
  obtain ⟨f1, f2⟩ := putT_facts hp
  have hdi : dstOf ops i = o.dst := dstOf_eq ho
  have hnL : ¬ Li listed i := fun h => hh.new (hj.sub i h)
  have hother : ∀ j ∈ done, ∀ k, dstOf ops j = some k → t₁.get (posOf k) = t.get (posOf k) := fun j hjd k hk => f1 k fun e => by
    have := hs.uniq i j k (by rw [hdi]; exact e) hk
    subst this; exact hh.new hjd
  have hpend' : ∀ j ∈ done, ¬ Li listed j → Pend P G ops A t₀ t₁ σ₁ ρ σ₀.next.num j := fun j hjd hjl => by
    refine ((hj.pend j hjd hjl).agree fun k hk => ?_).grow hget hst.next
    rcases hk with hk | ⟨q, hq, hk⟩
    · grind
    · exact hother q (hj.dclosed j q (dstOf_lt hk) hjd hq) k hk
  have hfar : ∀ j o' k' v' b, j ∈ done → ¬ Li listed j → ops[j]? = some o' → kindOf P o'.op = .alloc → dstOf ops j = some k' → t₁.get (posOf k') = some v' → blk v' = some b → b.num < σ.next.num := fun j o' k' v' b hjd hjl ho' hk hd hv hb => by
    obtain ⟨o'', ti, e, _, _, bw, _, h4, h5⟩ := hj.pend j hjd hjl
    rw [ho'] at e; cases e
    rw [hother j hjd k' hd] at hv
    rw [dstOf_eq ho'] at hd
    cases bw with
    | false => rw [h4 rfl k' hd] at hv; cases hv; cases hb
    | true =>
      have := h5 rfl
      grind [PendV, blk_of]
  refine ⟨hrun, hok, hinv, hj.stp.trans hst, hj.dr, hj.gr, hj.tsz, hj.lsz, fun j h => ?_, ⟨hh.dep, hj.ord⟩, fun j h => List.mem_cons_of_mem _ (hj.sub j h), fun j h hv => ?_, hj.closed, fun j q hq h ha => ?_, fun j h k hk => ?_, fun j k u hL hk hu => ?_, hj.slot0, fun k hk => ?_, fun j h hjl => ?_, ?_⟩
  · rcases mem_cons_cases h with rfl | h
    · exact hh.lt
    · exact hj.bnd j h
  · rcases mem_cons_cases h with rfl | h
    · simp_all
    · exact hj.heavy j h hv
  · rcases mem_cons_cases h with rfl | h
    · exact List.mem_cons_of_mem _ (anc_done hs hh.lt hh.dep hj.dclosed q hq ha)
    · exact List.mem_cons_of_mem _ (hj.dclosed j q hq h ha)
  · rcases mem_cons_cases h with rfl | h
    · simp_all
    · exact hj.dlt j h k hk
  · rw [hother j (hj.sub j hL) k hk] at hu
    exact hj.slotS j k u hL hk hu
  · rw [f1 k (fun e => hk i (List.mem_cons_self ..) (by rw [hdi]; exact e))]
    exact hj.same k fun j h => hk j (List.mem_cons_of_mem _ h)
  · grind
  · intro j q o' o'' k k' u u' b h1 h2 h3 h4 h5 h6 h7 h8 h9 h10 h11 h12 h13 h14
    rcases mem_cons_cases h1 with rfl | m1 <;> rcases mem_cons_cases h2 with rfl | m2
    · rfl
    · grind
    · grind
    · rw [hother j m1 k h9] at h11
      rw [hother q m2 k' h10] at h12
      exact hj.apart j q o' o'' k k' u u' b m1 m2 h3 h4 h5 h6 h7 h8 h9 h10 h11 h12 h13 h14
theorem Inv.ahead_core (hi : Inv ρ σ w) (ob : AObj) : InvC ρ (σ.alloc ob) w ∧ Stp ρ σ w ρ (σ.alloc ob) w ∧ ∀ b o, σ.m.get b = some o → (σ.alloc ob).m.get b = some o := by
  have hnone : ρ σ.next = none := (hi.fresh _ (Nat.le_refl _)).1
  have hget : ∀ b, b ≠ σ.next → (σ.alloc ob).m.get b = σ.m.get b := fun b hb => PT.get_put_other _ _ _ _ hb
  have back : ∀ b o l, (σ.alloc ob).m.get b = some o → ρ b = some l → σ.m.get b = some o := fun b o l h hl => by
    grind
  refine ⟨⟨fun b hb => ?_, hi.blk, fun b o l h hl => hi.obj b o l (back b o l h hl) hl, fun b b' o o' l l' h1 h2 h3 h4 => hi.inj b b' o o' l l' (back b o l h1 h3) (back b' o' l' h2 h4) h3 h4⟩, ⟨fun _ _ => rfl, ?_, Nat.le_refl _, fun _ _ _ => rfl, ?_, rfl, rfl, rfl, Nat.le_refl _⟩, fun b o h => ?_⟩
  · have hb' : σ.next.num + 1 ≤ b.num := by simpa [AHeap.alloc, Pos.num_succ] using hb
    have hne : b ≠ σ.next := fun e => by subst e; omega
    rw [hget b hne]
    exact hi.fresh b (by omega)
  · simp [AHeap.alloc, Pos.num_succ]
  · rintro r ⟨b, o, l, h1, h2, h3, rfl⟩ _
    exact ⟨b, o, l, back b o l h1 h3, h2, h3, rfl⟩
  · by_cases e : b = σ.next
    · subst e; rw [(hi.fresh _ (Nat.le_refl _)).2] at h; cases h
    simp_all
theorem Inv.ahead (hi : Inv ρ σ w) (ob : AObj) : Inv ρ (σ.alloc ob) w ∧ Stp ρ σ w ρ (σ.alloc ob) w ∧ ∀ b o, σ.m.get b = some o → (σ.alloc ob).m.get b = some o :=
  let ⟨h1, h2, h3⟩ := hi.ahead_core ob; ⟨⟨h1, hi.old.of h2⟩, h2, h3⟩
theorem AHeap.get_alloc (σ : AHeap) (ob : AObj) : (σ.alloc ob).m.get σ.next = some ob := PT.get_put_same _ _ _
theorem J.light (hs : Shape P ops A) {i : Nat} {rc : List Nat} (hj : J P G ih ops A n d fin ρ₀ σ₀ w₀ t₀ ((i, rc) :: l) done t σ listed ρ w a) (hl : isHeavy P ops i = false) (hfin : ∀ k, fin ≠ .err k) :
    ∃ t₁ σ₁, J P G ih ops A n d fin ρ₀ σ₀ w₀ t₀ l (i :: done) t₁ σ₁ listed ρ w a := by
  obtain ⟨hh, hok⟩ := hj.ok
  obtain ⟨o, ho⟩ : ∃ o, ops[i]? = some o := ⟨ops[i]'hh.lt, Array.getElem?_eq_getElem hh.lt⟩
  have hrun : (match ops[i]? with
      | some o => oneX P G ih false ops n o t σ (fun t' σ' => bif stillAll P G ops t' σ' rc then planX P G ih ops n d l t' σ' else .err 86)
      | none => .err 87) = fin := hj.run
  rw [ho] at hrun
  dsimp only at hrun
  have hhead := hj.head_slots hs ho hh.new
  have hcont : ∀ t₁ σ₁, (bif stillAll P G ops t₁ σ₁ rc then planX P G ih ops n d l t₁ σ₁ else .err 86) = fin → planX P G ih ops n d l t₁ σ₁ = fin := fun t₁ σ₁ h => by
    grind
  have hanc : ∀ {v : AV} {t₁ : PT AV}, putT t n o.dst v = some t₁ → ∀ k ∈ slotsOf ops o, ∀ j, anc A i j = true → dstOf ops j = some k → t.get (posOf k) = t₁.get (posOf k) := fun hp k hk j ha hjk => by
    refine ((putT_facts hp).1 k fun e => ?_).symm
    have := hs.uniq i j k (by rw [dstOf_eq ho]; exact e) hjk
    subst this
    exact hh.new (anc_done hs hh.lt hh.dep hj.dclosed i hh.lt ha)
  unfold oneX at hrun
  cases hw : wantedA ops t o with
  | none => grind
  | some bw =>
    rw [hw] at hrun
    cases bw with
    | false =>
      dsimp only at hrun
      cases hp : putT t n o.dst unit with
      | none => grind
      | some t₁ =>
        rw [hp] at hrun
        refine ⟨t₁, σ, hj.ahead hs hl ho hp (hcont _ _ hrun) hj.inv (Stp.refl _ _ _) (fun _ _ h => h) (fun b hb => by cases hb) ?_⟩
        exact ⟨o, t, ho, hanc hp, hhead, false, hw, fun _ k hk => ((putT_facts hp).2 k hk).2, fun h => by cases h⟩
    | true =>
      dsimp only at hrun
      have main : ∀ (v : AV) (σ₁ : AHeap), effX P G ih (opX P G (evalT G t) σ o.op) = .ret v σ₁ → Inv ρ σ₁ w → Stp ρ σ w ρ σ₁ w → (∀ b o, σ.m.get b = some o → σ₁.m.get b = some o) →
          (∀ b, blk v = some b → kindOf P o.op = .alloc → σ.next.num ≤ b.num) → (∀ t₁, (∀ k, o.dst = some k → t₁.get (posOf k) = some v) → PendV P G t₁ σ₁ ρ σ₀.next.num t o) →
          ∃ t₁ σ₁, J P G ih ops A n d fin ρ₀ σ₀ w₀ t₀ l (i :: done) t₁ σ₁ listed ρ w a := by
        intro v σ₁ he hinv hst hget hblk hpv
        rw [he] at hrun
        dsimp only at hrun
        cases hp : putT t n o.dst v with
        | none => grind
        | some t₁ =>
          rw [hp] at hrun
          refine ⟨t₁, σ₁, hj.ahead hs hl ho hp (hcont _ _ hrun) hinv hst hget hblk ?_⟩
          exact ⟨o, t, ho, hanc hp, hhead, true, hw, fun h => (by cases h), fun _ => hpv t₁ fun k hk => ((putT_facts hp).2 k hk).2⟩
      cases hk : kindOf P o.op with
      | heavy => simp [isHeavy, heavyK, ho, hk] at hl
      | pure =>
        cases hv : pureA P (evalT G t) o.op with
        | none =>
          have : effX P G ih (opX P G (evalT G t) σ o.op) = .err (Nat.add 1000 (opTag o.op)) := by unfold opX; rw [hk]; dsimp only; rw [hv]; rfl
          grind
        | some v =>
          have : effX P G ih (opX P G (evalT G t) σ o.op) = .ret v σ := by unfold opX; rw [hk]; dsimp only; rw [hv]; rfl
          refine main v σ this hj.inv (Stp.refl _ _ _) (fun _ _ h => h) (fun b _ h => by rw [hk] at h; cases h) fun t₁ ht₁ => ?_
          unfold PendV; simp_all
      | read =>
        cases hv : readA P (evalT G t) σ o.op with
        | none =>
          have : effX P G ih (opX P G (evalT G t) σ o.op) = .err (Nat.add 2000 (opTag o.op)) := by unfold opX; rw [hk]; dsimp only; rw [hv]; rfl
          grind
        | some v =>
          have : effX P G ih (opX P G (evalT G t) σ o.op) = .ret v σ := by unfold opX; rw [hk]; dsimp only; rw [hv]; rfl
          refine main v σ this hj.inv (Stp.refl _ _ _) (fun _ _ h => h) (fun b _ h => by rw [hk] at h; cases h) fun t₁ ht₁ => ?_
          unfold PendV; simp_all
      | alloc =>
        cases hv : allocA P (evalT G t) o.op with
        | none =>
          have : effX P G ih (opX P G (evalT G t) σ o.op) = .err (Nat.add 3000 (opTag o.op)) := by unfold opX; rw [hk]; dsimp only; rw [hv]; rfl
          grind
        | some p =>
          obtain ⟨ob, mk⟩ := p
          have : effX P G ih (opX P G (evalT G t) σ o.op) = .ret (mk.of σ.next) (σ.alloc ob) := by unfold opX; rw [hk]; dsimp only; rw [hv]; rfl
          obtain ⟨g1, g2, g3⟩ := hj.inv.ahead ob
          refine main _ _ this g1 g2 g3 (fun b hb _ => by rw [blk_of] at hb; simp_all) fun t₁ ht₁ => ?_
          unfold PendV; rw [hk]
          exact ⟨ob, mk, σ.next, hv, AHeap.get_alloc σ ob, (hj.inv.fresh _ (Nat.le_refl _)).1, hj.stp.next, by simp [AHeap.alloc, Pos.num_succ], ht₁⟩
theorem J.advance (hs : Shape P ops A) (hfin : ∀ k, fin ≠ .err k) : ∀ (l : List (Nat × List Nat)) (done : List Nat) (t : PT AV) (σ : AHeap), J P G ih ops A n d fin ρ₀ σ₀ w₀ t₀ l done t σ listed ρ w a →
    ∃ l' done' t' σ', J P G ih ops A n d fin ρ₀ σ₀ w₀ t₀ l' done' t' σ' listed ρ w a ∧ (l' = [] ∨ ∃ i rc r, l' = (i, rc) :: r ∧ isHeavy P ops i = true)
  | [], done, t, σ, hj => ⟨[], done, t, σ, hj, .inl rfl⟩
  | (i, rc) :: l, done, t, σ, hj => by
    cases hl : isHeavy P ops i with
    | true => exact ⟨_, done, t, σ, hj, .inr ⟨i, rc, l, rfl, hl⟩⟩
    | false =>
      obtain ⟨t₁, σ₁, hj₁⟩ := hj.light hs hl hfin
      exact J.advance hs hfin l _ t₁ σ₁ hj₁
end
section
variable {P : Program} {G : Cx} {ih : IhC} {ops : Array Oper} {A : Array Nat} {n : Nat} {d : List DE} {fin : CR} {ρ₀ : Ren} {σ₀ : AHeap} {w₀ : World} {t₀ : PT AV}
variable {l : List (Nat × List Nat)} {done : List Nat} {t : PT AV} {σ : AHeap} {listed : Array Bool} {ρ : Ren} {w : World} {a : Act}
theorem J.behind (hs : Shape P ops A) (hj : J P G ih ops A n d fin ρ₀ σ₀ w₀ t₀ l done t σ listed ρ w a) {i : Nat} {o : Oper} {x : Value} {ρ₁ : Ren} {w₁ : World} (ho : ops[i]? = some o) (hid : i ∈ done) (hn : ¬ Li listed i)
    (hr : ∀ j, j < ops.size → anc A i j = true → Li listed j) (hv : ∀ k v, o.dst = some k → t.get (posOf k) = some v → VR ρ₁ v x) (hinv : Inv ρ₁ σ w₁) (hst : Stp ρ₀ σ₀ w₀ ρ₁ σ w₁) (hle : ρ.le ρ₁)
    (hren : ∀ j ∈ done, ¬ Li listed j → j ≠ i → Pend P G ops A t₀ t σ ρ₁ σ₀.next.num j) : J P G ih ops A n d fin ρ₀ σ₀ w₀ t₀ l done t σ (listed.setIfInBounds i true) ρ₁ w₁ (a.put o.dst x) := by
  have hil : i < listed.size := by rw [hj.lsz]; exact hj.bnd i hid
  have hdi : dstOf ops i = o.dst := dstOf_eq ho
  obtain ⟨p1, p2, p3⟩ := put_at (a := a) (dst := o.dst) (x := x)
  have hset : ∀ {j}, Li (listed.setIfInBounds i true) j ↔ j = i ∨ Li listed j := Li_set hil
  refine ⟨hj.run, hj.ok, hinv, hst, by rw [put_defers]; exact hj.dr.mono hle, hj.gr.mono hle, by rw [p3]; exact hj.tsz, by simpa using hj.lsz, hj.bnd, hj.ord, fun j h => ?_, fun j h hh => hset.2 (.inr (hj.heavy j h hh)), fun j q hq h ha => ?_, hj.dclosed, hj.dlt,
    fun j k v h hk hu => ?_, fun k v h hu => ?_, hj.same, fun j h hl => ?_, ?_⟩
  · rcases hset.1 h with rfl | h
    · exact hid
    · exact hj.sub j h
  · rcases hset.1 h with rfl | h
    · simp_all
    · exact hset.2 (.inr (hj.closed j q hq h ha))
  · by_cases e : j = i
    · subst e
      rw [hdi] at hk
      rw [p2 k hk (by rw [hj.tsz]; exact hj.dlt j hid k (by rw [hdi]; exact hk))]
      exact hv k v hk hu
    · have hL := (hset.1 h).resolve_left e
      rw [p1 k (fun e' => e (hs.uniq j i k hk (by rw [hdi]; exact e')))]
      exact VR.mono hle _ _ (hj.slotS j k v hL hk hu)
  · rw [p1 k (fun e' => h i (hset.2 (.inl rfl)) (by rw [hdi]; exact e'))]
    obtain ⟨q1, q2⟩ := hj.slot0 k v (fun j hL => h j (hset.2 (.inr hL))) hu
    exact ⟨q1, VR.mono hle _ _ q2⟩
  · simp_all
  · intro j q o' o'' k k' u u' b h1 h2 h3 h4
    exact hj.apart j q o' o'' k k' u u' b h1 h2 (fun hL => h3 (hset.2 (.inr hL))) (fun hL => h4 (hset.2 (.inr hL)))
theorem stillAll_mem {t₁ : PT AV} {σ₁ : AHeap} : ∀ {rc : List Nat} {j : Nat}, stillAll P G ops t₁ σ₁ rc = true → j ∈ rc → stillX P G ops t₁ σ₁ j = true
  | [], j, _, hj => by cases hj
  | i :: rc, j, h, hj => by
    have h' : (bif stillX P G ops t₁ σ₁ i then stillAll P G ops t₁ σ₁ rc else false) = true := h
    rw [ite_cond] at h'
    split at h'
    · rename_i hi
      rcases mem_cons_cases hj with rfl | hj
      · exact hi
      · exact stillAll_mem h' hj
    · cases h'
theorem J.turn (hs : Shape P ops A) {i : Nat} {rc : List Nat} (hj : J P G ih ops A n d fin ρ₀ σ₀ w₀ t₀ ((i, rc) :: l) done t σ listed ρ w a) (hl : isHeavy P ops i = true) {o : Oper} (ho : ops[i]? = some o)
    (hr : ∀ j, j < ops.size → anc A i j = true → Li listed j) {v : AV} {x : Value} {t₁ : PT AV} {σ₁ : AHeap} {ρ₁ : Ren} {w₁ : World} (hp : putT t n o.dst v = some t₁) (hstill : stillAll P G ops t₁ σ₁ rc = true) (hrun : planX P G ih ops n d l t₁ σ₁ = fin)
    (hv : VR ρ₁ v x) (hinv : Inv ρ₁ σ₁ w₁) (hst : Stp ρ σ w ρ₁ σ₁ w₁) : J P G ih ops A n d fin ρ₀ σ₀ w₀ t₀ l (i :: done) t₁ σ₁ (listed.setIfInBounds i true) ρ₁ w₁ (a.put o.dst x) := by
  obtain ⟨hh, hok⟩ := hj.ok
  obtain ⟨f1, f2⟩ := putT_facts hp
  have hle := hst.le hj.inv
  have hil : i < listed.size := by rw [hj.lsz]; exact hh.lt
  have hdi : dstOf ops i = o.dst := dstOf_eq ho
  obtain ⟨p1, p2, p3⟩ := put_at (a := a) (dst := o.dst) (x := x)
  have hset : ∀ {j}, Li (listed.setIfInBounds i true) j ↔ j = i ∨ Li listed j := Li_set hil
  have hnL : ¬ Li listed i := fun h => hh.new (hj.sub i h)
  have hother : ∀ j ∈ done, ∀ k, dstOf ops j = some k → t₁.get (posOf k) = t.get (posOf k) := fun j hjd k hk => f1 k fun e => by
    have := hs.uniq i j k (by rw [hdi]; exact e) hk
    subst this; exact hh.new hjd
  refine ⟨hrun, hok, hinv, hj.stp.trans hst, by rw [put_defers]; exact hj.dr.mono hle, hj.gr.mono hle, by rw [p3]; exact hj.tsz, by simpa using hj.lsz, fun j h => ?_, ⟨hh.dep, hj.ord⟩, fun j h => ?_, fun j h hv => ?_, fun j q hq h ha => ?_, fun j q hq h ha => ?_, fun j h k hk => ?_,
    fun j k u h hk hu => ?_, fun k u h hu => ?_, fun k hk => ?_, fun j h hjl => ?_, ?_⟩
  · rcases mem_cons_cases h with rfl | h
    · exact hh.lt
    · exact hj.bnd j h
  · rcases hset.1 h with rfl | h
    · simp_all
    · exact List.mem_cons_of_mem _ (hj.sub j h)
  · rcases mem_cons_cases h with rfl | h
    · simp_all
    · exact hset.2 (.inr (hj.heavy j h hv))
  · rcases hset.1 h with rfl | h
    · simp_all
    · exact hset.2 (.inr (hj.closed j q hq h ha))
  · rcases mem_cons_cases h with rfl | h
    · exact List.mem_cons_of_mem _ (anc_done hs hh.lt hh.dep hj.dclosed q hq ha)
    · exact List.mem_cons_of_mem _ (hj.dclosed j q hq h ha)
  · rcases mem_cons_cases h with rfl | h
    · simp_all
    · exact hj.dlt j h k hk
  · by_cases e : j = i
    · subst e
      rw [hdi] at hk
      obtain ⟨q1, q2⟩ := f2 k hk
      rw [p2 k hk (by rw [hj.tsz]; exact q1)]
      simp_all
    · have hL := (hset.1 h).resolve_left e
      rw [p1 k (fun e' => e (hs.uniq j i k hk (by rw [hdi]; exact e')))]
      rw [hother j (hj.sub j hL) k hk] at hu
      exact VR.mono hle _ _ (hj.slotS j k u hL hk hu)
  · rw [p1 k (fun e' => h i (hset.2 (.inl rfl)) (by rw [hdi]; exact e'))]
    obtain ⟨q1, q2⟩ := hj.slot0 k u (fun j hL => h j (hset.2 (.inr hL))) hu
    exact ⟨q1, VR.mono hle _ _ q2⟩
  · rw [f1 k (fun e => hk i (List.mem_cons_self ..) (by rw [hdi]; exact e))]
    exact hj.same k fun j h => hk j (List.mem_cons_of_mem _ h)
  · have hji : j ≠ i := fun e => hjl (hset.2 (.inl e))
    have hjL : ¬ Li listed j := fun hL => hjl (hset.2 (.inr hL))
    have hjd : j ∈ done := (mem_cons_cases h).resolve_left hji
    refine (hj.pend j hjd hjL).again hs (fun k hk => ?_) (fun k hk => ?_) (fun hlm => ?_) (fun b hb => hst.ext b hb) hst.next
    · rcases hk with hk | ⟨q, hq, hk⟩
      · grind
      · exact hother q (hj.dclosed j q (dstOf_lt hk) hjd hq) k hk
    · rw [f1 k (fun e => hk i (by rw [hdi]; exact e))]
      exact hj.same k fun j _ => hk j
    · rcases hh.again hl j hjd hlm with ha | hm
      · exact absurd (hr j (hj.bnd j hjd) ha) hjL
      · exact stillAll_mem hstill hm
  · intro j q o' o'' k k' u u' b h1 h2 h3 h4 h5 h6 h7 h8 h9 h10 h11 h12 h13 h14
    have m1 : j ∈ done := (mem_cons_cases h1).resolve_left fun e => h3 (hset.2 (.inl e))
    have m2 : q ∈ done := (mem_cons_cases h2).resolve_left fun e => h4 (hset.2 (.inl e))
    rw [hother j m1 k h9] at h11
    rw [hother q m2 k' h10] at h12
    exact hj.apart j q o' o'' k k' u u' b m1 m2 (fun hL => h3 (hset.2 (.inr hL))) (fun hL => h4 (hset.2 (.inr hL))) h5 h6 h7 h8 h9 h10 h11 h12 h13 h14
theorem ready_to {i : Nat} (hsz : listed.size = ops.size) (h : i ∈ Region.ready .any ops listed) : i < ops.size ∧ ¬ Li listed i ∧ ∀ j, waits ops i j = true → Li listed j := by
  obtain ⟨h1, o, ho, h2⟩ := mem_ready.1 h
  have hlt := (Array.getElem?_eq_some_iff.1 ho).1
  refine ⟨hlt, (not_Li (by rw [hsz]; exact hlt)).1 h1, fun j hw => ?_⟩
  obtain ⟨o', ho', e, he, hb, rfl⟩ := waits_iff.1 hw
  rw [ho] at ho'; cases ho'
  exact h2 e he hb
theorem ready_of {i : Nat} (hsz : listed.size = ops.size) (hlt : i < ops.size) (hn : ¬ Li listed i) (hw : ∀ j, waits ops i j = true → Li listed j) : i ∈ Region.ready .any ops listed :=
  mem_ready.2 ⟨(not_Li (by rw [hsz]; exact hlt)).2 hn, ops[i]'hlt, Array.getElem?_eq_getElem hlt, fun e he hb => hw _ (waits_iff.2 ⟨_, Array.getElem?_eq_getElem hlt, e, he, hb, rfl⟩)⟩
theorem ord_first : ∀ {done : List Nat}, Ord ops done → (∃ i ∈ done, ¬ Li listed i) → ∃ i ∈ done, ¬ Li listed i ∧ ∀ j, waits ops i j = true → Li listed j
  | [], _, ⟨i, hi, _⟩ => by cases hi
  | i :: r, ho, ⟨q, hq, hn⟩ => by
    by_cases hr : ∃ j ∈ r, ¬ Li listed j
    · obtain ⟨j, h1, h2, h3⟩ := ord_first ho.2 hr
      grind
    · have hall : ∀ j ∈ r, Li listed j := fun j hj => Classical.byContradiction fun h => hr ⟨j, hj, h⟩
      rcases mem_cons_cases hq with rfl | hq
      · exact ⟨q, List.mem_cons_self .., hn, fun j hw => hall j (ho.1 j hw)⟩
      simp_all
theorem J.all (hs : Shape P ops A) (hj : J P G ih ops A n d fin ρ₀ σ₀ w₀ t₀ l done t σ listed ρ w a) (hr : Region.ready .any ops listed = []) : ∀ i, i < ops.size → Li listed i := by
  have hall : ∀ i ∈ done, Li listed i := fun i hi => Classical.byContradiction fun h => by
    obtain ⟨q, h1, h2, h3⟩ := ord_first hj.ord ⟨i, hi, h⟩
    have := ready_of hj.lsz (hj.bnd q h1) h2 h3
    simp_all
  intro i hi
  cases l with
  | nil =>
    have := hj.ok
    exact hall i (this i hi)
  | cons p l =>
    obtain ⟨q, rc⟩ := p
    obtain ⟨hh, _⟩ := hj.ok
    have := ready_of (listed := listed) hj.lsz hh.lt (fun h => hh.new (hj.sub q h)) (fun j hw => hall j (hh.dep j hw))
    simp_all
theorem J.finish (hs : Shape P ops A) (hj : J P G ih ops A n d fin ρ₀ σ₀ w₀ t₀ l done t σ listed ρ w a) (hall : ∀ i, i < ops.size → Li listed i) : fin = .ok .normal t d σ ∧ TR ρ t n a.tmps := by
  cases l with
  | nil =>
    refine ⟨hj.run.symm, hj.tsz, fun k v hv => ?_⟩
    by_cases hw : ∃ i, dstOf ops i = some k
    · obtain ⟨i, hi⟩ := hw
      have hL := hall i (dstOf_lt hi)
      exact ⟨hj.dlt i (hj.sub i hL) k hi, hj.slotS i k v hL hi hv⟩
    · rw [hj.same k fun i _ hi => hw ⟨i, hi⟩] at hv
      exact hj.slot0 k v (fun i _ hi => hw ⟨i, hi⟩) hv
  | cons p l =>
    obtain ⟨q, rc⟩ := p
    obtain ⟨hh, _⟩ := hj.ok
    exact absurd (hj.sub q (hall q hh.lt)) hh.new
def left (N : Nat) (listed : Array Bool) : Nat := (List.range N).countP fun i => !listed.getD i false
theorem countP_lt {α : Type} {p q : α → Bool} : ∀ {l : List α} {x : α}, (∀ y ∈ l, q y = true → p y = true) → x ∈ l → p x = true → q x = false → l.countP q < l.countP p
  | [], x, _, hx, _, _ => by cases hx
  | y :: l, x, h, hx, hp, hq => by
    have hle : l.countP q ≤ l.countP p := List.countP_mono_left fun z hz => h z (List.mem_cons_of_mem _ hz)
    rcases mem_cons_cases hx with rfl | hx
    · grind
    · have := countP_lt (fun z hz => h z (List.mem_cons_of_mem _ hz)) hx hp hq
      grind
theorem left_set {N i : Nat} (hi : i < N) (hsz : listed.size = N) (hn : ¬ Li listed i) : left N (listed.setIfInBounds i true) < left N listed := by
  refine countP_lt (x := i) (fun y _ hy => ?_) (List.mem_range.2 hi) ?_ ?_
  · by_cases h : Li listed y
    · have : Li (listed.setIfInBounds i true) y := (Li_set (by rw [hsz]; exact hi)).2 (.inr h)
      unfold Li at this
      simp_all
    · unfold Li at h; simpa using h
  · unfold Li at hn; simpa using hn
  simp_all
theorem left_zero {N : Nat} (h : left N listed = 0) : ∀ i, i < N → Li listed i := fun i hi => by
  have := List.countP_eq_zero.1 h i (List.mem_range.2 hi)
  unfold Li
  simpa using this
theorem Inv.lay (hi : Inv ρ σ w) {b : Pos} {l : Loc} {ob : AObj} {x : Obj} (hb : σ.m.get b = some ob) (hn : ρ b = none) (hlt : b.num < σ.next.num) (hl : l.blk = w.heap.size) (ho : ObjR ρ l ob x) : Inv (ρ.with b l) σ (w.alloc x) ∧ ρ.le (ρ.with b l) := by
  have hle : ρ.le (ρ.with b l) := fun b' l' hb' => by
    grind [Ren.with_other]
  have hold : ∀ b' l', b' ≠ b → (ρ.with b l) b' = some l' → ρ b' = some l' := fun b' l' hne h => by rwa [Ren.with_other ρ l hne] at h
  have hold2 : Old (ρ.with b l) σ (w.alloc x) := by
    refine ⟨by have := hi.old.size; simp; omega, fun r hr => by rw [heap_alloc_old w x (Nat.lt_of_lt_of_le hr hi.old.size)]; exact hi.old.same r hr, fun r hr ⟨b', o', l', h1, h2, h3, h4⟩ => ?_⟩
    by_cases e : b' = b
    · subst e
      rw [Ren.with_same] at h3; cases h3
      have := hi.old.size
      omega
    · exact hi.old.no r hr ⟨b', o', l', h1, h2, hold b' l' e h3, h4⟩
  refine ⟨⟨⟨fun b' hb' => ?_, fun b' l' hb' => ?_, fun b' o' l' hb' hl' => ?_, fun b₁ b₂ o₁ o₂ l₁ l₂ h1 h2 h3 h4 h5 h6 => ?_⟩, hold2⟩, hle⟩
  · have hne : b' ≠ b := fun e => by subst e; omega
    rw [Ren.with_other ρ l hne]
    exact hi.fresh b' hb'
  · simp only [World.size_alloc]
    by_cases e : b' = b
    · subst e; rw [Ren.with_same] at hb'; cases hb'; omega
    · have := hi.blk b' l' (hold b' l' e hb'); omega
  · by_cases e : b' = b
    · subst e
      rw [Ren.with_same] at hl'; cases hl'
      rw [hb] at hb'; cases hb'
      exact ⟨x, by rw [hl]; exact heap_alloc_new w x, ho.mono hle⟩
    · have h' := hold b' l' e hl'
      obtain ⟨y, hy, hr⟩ := hi.obj b' o' l' hb' h'
      exact ⟨y, by rw [heap_alloc_old w x (hi.blk b' l' h')]; exact hy, hr.mono hle⟩
  · by_cases e1 : b₁ = b <;> by_cases e2 : b₂ = b
    · simp_all
    · subst e1
      rw [Ren.with_same] at h3; cases h3
      have := hi.blk b₂ l₂ (hold b₂ l₂ e2 h4); omega
    · subst e2
      rw [Ren.with_same] at h4; cases h4
      have := hi.blk b₁ l₁ (hold b₁ l₁ e1 h3); omega
    · exact hi.inj b₁ b₂ o₁ o₂ l₁ l₂ h1 h2 (hold b₁ l₁ e1 h3) (hold b₂ l₂ e2 h4) h5 h6
theorem Stp.lay (hst : Stp ρ₀ σ₀ w₀ ρ σ w) {b : Pos} {l : Loc} {x : Obj} (hlo : σ₀.next.num ≤ b.num) (hl : l.blk = w.heap.size) : Stp ρ₀ σ₀ w₀ (ρ.with b l) σ (w.alloc x) := by
  refine ⟨fun b' hb' => ?_, hst.next, by have := hst.size; simp; omega, fun r hr hn => ?_, ?_, hst.tape, hst.os, hst.out⟩
  · rw [Ren.with_other ρ l (fun e => by subst e; omega)]
    exact hst.ext b' hb'
  · rw [heap_alloc_old w x (by have := hst.size; omega)]
    exact hst.frame r hr hn
  · rintro r ⟨b', o', l', h1, h2, h3, rfl⟩ hr
    by_cases e : b' = b
    · subst e; rw [Ren.with_same] at h3; cases h3; have := hst.size; omega
    · rw [Ren.with_other ρ l e] at h3
      exact hst.wr _ ⟨b', o', l', h1, h2, h3, rfl⟩ hr
theorem J.take (hs : Shape P ops A) (hj : J P G ih ops A n d fin ρ₀ σ₀ w₀ t₀ l done t σ listed ρ w a) {i : Nat} (hid : i ∈ done) (hn : ¬ Li listed i) (hw : ∀ j, waits ops i j = true → Li listed j) (rl : Option Nat) (m : Nat) {Q : Exit → Act → World → Prop} {K : Act → World → Prop}
    (hK : ∀ ρ₁ w₁ a₁, J P G ih ops A n d fin ρ₀ σ₀ w₀ t₀ l done t σ (listed.setIfInBounds i true) ρ₁ w₁ a₁ → K a₁ w₁) : wpOpIn (fenc rl) m P ops Q i K a w := by
  have hr := anc_listed hs (hj.bnd i hid) hw hj.closed
  obtain ⟨o, ti, ho, h1, h2, bw, h3, h4, h5⟩ := hj.pend i hid hn
  have hlook := hj.look hs ho hn hr h1 h2
  unfold wpOpIn
  rw [ho]
  dsimp only
  rw [look_wanted hj.tsz hlook h3]
  cases bw with
  | false =>
    simp only [Bool.false_eq_true, if_false]
    exact ⟨fun f _ => fenc_fn rl f, hK ρ w _ (hj.behind hs ho hid hn hr (fun k v hk hv => by rw [h4 rfl k hk] at hv; cases hv; exact VR_unit) hj.inv hj.stp (fun _ _ h => h) fun j hjd hjl _ => hj.pend j hjd hjl)⟩
  | true =>
    simp only [if_true]
    have hE : ER ρ (evalT G ti) a.eval o.op := look_ER hj.gr hlook
    have hv := h5 rfl
    unfold PendV at hv
    have hnd : kindOf P o.op ≠ .heavy → ∀ c, o.op ≠ .defer c := fun hk c e => hk (by rw [e]; rfl)
    unfold Oper.wpIn
    refine ⟨fun f _ => fenc_fn rl f, ?_⟩
    cases hk : kindOf P o.op with
    | heavy => simp_all
    | pure =>
      rw [hk] at hv
      obtain ⟨v, g1, g2⟩ := hv
      obtain ⟨x, hx, hvx⟩ := pure_sound (P := P) (w := w) hE g1
      rw [Oper.semAt_eq _ _ _ (hnd (by rw [hk]; simp)), hx, Oper.uponIn_value]
      exact hK ρ w _ (hj.behind hs ho hid hn hr (fun k u hk hu => by simp_all) hj.inv hj.stp (fun _ _ h => h) fun j hjd hjl _ => hj.pend j hjd hjl)
    | read =>
      rw [hk] at hv
      obtain ⟨v, g1, g2⟩ := hv
      obtain ⟨x, hx, hvx⟩ := read_sound (P := P) hj.inv hE g1
      rw [Oper.semAt_eq _ _ _ (hnd (by rw [hk]; simp)), hx, Oper.uponIn_value]
      exact hK ρ w _ (hj.behind hs ho hid hn hr (fun k u hk hu => by simp_all) hj.inv hj.stp (fun _ _ h => h) fun j hjd hjl _ => hj.pend j hjd hjl)
    | alloc =>
      rw [hk] at hv
      obtain ⟨ob, mk, b, g1, g2, g3, g4, g5, g6⟩ := hv
      obtain ⟨x, ob', c, hx, hro, hob, hvx⟩ := alloc_sound (P := P) (w := w) hE g1
      rw [Oper.semAt_eq _ _ _ (hnd (by rw [hk]; simp)), hx, Oper.uponIn_value]
      obtain ⟨inv, hle⟩ := hj.inv.lay (l := ⟨w.heap.size, 0, c⟩) g2 g3 g5 rfl hob
      obtain ⟨kd, hkd⟩ := hs.dst i o ho (by simp [looksMem, looksK, ho, hk])
      refine hK _ _ _ (hj.behind hs ho hid hn hr (fun k u hk hu => by grind [Ren.with_same]) inv (hj.stp.lay g4 rfl) hle fun j hjd hjl hji => ?_)
      refine (hj.pend j hjd hjl).ren hs fun b' hb' hb'n => ?_
      obtain ⟨o', k', v', q1, q2, q3, q4, q5⟩ := hb'
      rw [Ren.with_other]
      · exact hb'n
      · intro e
        subst e
        exact hji (hj.apart j i o' o k' kd v' (mk.of b') b' hjd hid hjl hn q1 ho q2 hk q3 (by rw [dstOf_eq ho]; exact hkd) q4 (g6 kd hkd) q5 (blk_of mk b'))
theorem draw_any (hs : Shape P ops A) (hS : Sound P G ih) (rl : Option Nat) (m : Nat) {Q : Exit → Act → World → Prop} {e : Ex} {t' : PT AV} {d' : List DE} {σ' : AHeap} (hfin : fin = .ok e t' d' σ')
    (hQ : ∀ (ρ' : Ren) (w' : World) (a' : Act), Inv ρ' σ' w' → Stp ρ₀ σ₀ w₀ ρ' σ' w' → TR ρ' t' n a'.tmps → DR ρ' d' a'.defers → Qx Q ρ' e a' w') :
    ∀ (fuel : Nat) (l : List (Nat × List Nat)) (done : List Nat) (t : PT AV) (σ : AHeap) (listed : Array Bool) (ρ : Ren) (w : World) (a : Act), J P G ih ops A n d fin ρ₀ σ₀ w₀ t₀ l done t σ listed ρ w a → left ops.size listed ≤ fuel →
      wpAnyIn (fenc rl) m P .any ops Q fuel listed a w := by
  have hend : ∀ {l done t σ listed ρ w a}, J P G ih ops A n d fin ρ₀ σ₀ w₀ t₀ l done t σ listed ρ w a → Region.ready .any ops listed = [] → Q .normal a w := fun {l done t σ listed ρ w a} hj hr => by
    obtain ⟨h1, h2⟩ := hj.finish hs (hj.all hs hr)
    rw [hfin] at h1
    cases h1
    exact hQ ρ w a hj.inv hj.stp h2 hj.dr _ rfl
  intro fuel
  induction fuel with
  | zero =>
    intro l done t σ listed ρ w a hj hf
    have hall := left_zero (Nat.le_zero.1 hf)
    have hr : Region.ready .any ops listed = [] := by
      apply List.eq_nil_iff_forall_not_mem.2
      intro i hi
      obtain ⟨h1, h2, _⟩ := ready_to hj.lsz hi
      exact h2 (hall i h1)
    exact ⟨hr, hend hj hr⟩
  | succ fuel ihf =>
    intro l done t σ listed ρ w a hj hf
    refine ⟨fun hr => hend hj hr, fun i hi => ?_⟩
    obtain ⟨l, done, t, σ, hj, hhead⟩ := J.advance hs (fun k => by rw [hfin]; simp) l done t σ hj
    obtain ⟨hlt, hn, hw⟩ := ready_to hj.lsz hi
    have hf' : left ops.size (listed.setIfInBounds i true) ≤ fuel := by have := left_set hlt hj.lsz hn; omega
    by_cases hid : i ∈ done
    · exact hj.take hs hid hn hw rl m fun ρ₁ w₁ a₁ hj₁ => ihf _ _ _ _ _ _ _ _ hj₁ hf'
    ·
      rcases hhead with rfl | ⟨q, rc, r, rfl, hl⟩
      · have := hj.ok
        exact absurd (this i hlt) hid
      · obtain ⟨hh, _⟩ := hj.ok
        have hiq : i = q := Classical.byContradiction fun hne => by
          obtain ⟨x, h1, h2⟩ := hh.alone hl i hlt hid hne
          exact h2 (hj.sub x (hw x h1))
        subst hiq
        have hr := anc_listed hs hlt hw hj.closed
        obtain ⟨o, ho⟩ : ∃ o, ops[i]? = some o := ⟨ops[i]'hlt, Array.getElem?_eq_getElem hlt⟩
        have hlook := hj.look hs ho hn hr (ti := t) (fun _ _ _ _ _ => rfl) (hj.head_slots hs ho hh.new)
        have hrun : (match ops[i]? with
          | some o => oneX P G ih false ops n o t σ (fun t' σ' => bif stillAll P G ops t' σ' rc then planX P G ih ops n d r t' σ' else .err 86)
          | none => .err 87) = fin := hj.run
        rw [ho, hfin] at hrun
        dsimp only at hrun
        have hcont : ∀ t₁ σ₁, (bif stillAll P G ops t₁ σ₁ rc then planX P G ih ops n d r t₁ σ₁ else .err 86) = .ok e t' d' σ' → stillAll P G ops t₁ σ₁ rc = true ∧ planX P G ih ops n d r t₁ σ₁ = fin := fun t₁ σ₁ h => by
          grind
        unfold oneX at hrun
        unfold wpOpIn
        rw [ho]
        dsimp only
        cases hwa : wantedA ops t o with
        | none => simp_all
        | some bw =>
          rw [hwa] at hrun
          rw [look_wanted hj.tsz hlook hwa]
          cases bw with
          | false =>
            dsimp only at hrun
            simp only [Bool.false_eq_true, if_false]
            cases hp : putT t n o.dst unit with
            | none => simp_all
            | some t₁ =>
              rw [hp] at hrun
              obtain ⟨c1, c2⟩ := hcont _ _ hrun
              exact ⟨fun f _ => fenc_fn rl f, ihf _ _ _ _ _ _ _ _ (hj.turn hs hl ho hr hp c1 c2 VR_unit hj.inv (Stp.refl _ _ _)) hf'⟩
          | true =>
            dsimp only at hrun
            simp only [if_true]
            cases he : effX P G ih (opX P G (evalT G t) σ o.op) with
            | err k => simp_all
            | pan v σ₁ => rw [he] at hrun; cases hrun
            | ret v σ₁ =>
              rw [he] at hrun
              dsimp only at hrun
              cases hp : putT t n o.dst v with
              | none => simp_all
              | some t₁ =>
                rw [hp] at hrun
                obtain ⟨c1, c2⟩ := hcont _ _ hrun
                exact one_wpIn hS hj.inv hj.gr (look_ER hj.gr hlook) he rl m fun ρ₁ w₁ x inv st hv => ihf _ _ _ _ _ _ _ _ (hj.turn hs hl ho hr hp c1 c2 hv inv st) hf'
end
section
variable {P : Program} {G : Cx}
theorem stepR_scope {b : Frame} {a : Act} {k : List Item} {cs : List Frame} {w : World} {c : Code} : step P (lone (b.atR a (.code (.scope c) :: k)) cs w) = .next (lone (b.atR a (.code c :: .inScope c :: k)) cs w) :=
  step_lone_go (by simp [stepG, stepG.exec, Frame.atR])
theorem stepR_inScope {b : Frame} {a : Act} {k : List Item} {cs : List Frame} {w : World} {c : Code} : step P (lone (b.atR a (.inScope c :: k)) cs w) = .next (lone (b.atR a k) cs w) :=
  step_lone_go (by simp [stepG, stepG.exec, Frame.atR])
theorem wpIn_scope {F : Fence} {n : Nat} {c : Code} {Q : Exit → Act → World → Prop} {a : Act} {w : World} (h : c.wpIn F n P (Exit.noGoto Q) a w) : (Code.scope c).wpIn F n P Q a w := by
  intro b k cs hro hb hr
  have h0 : (lone (b.atR a (.code (.scope c) :: k)) cs w).fenced P F := fenced_calm hb hr rfl
  obtain ⟨e, a₁, w₁, hq, harr⟩ := h b (.inScope c :: k) cs hro hb hr
  cases e with
  | normal => exact ⟨.normal, a₁, w₁, hq, .head h0 stepR_scope (StepsIn.trans harr (.one (fenced_calm hb hr rfl) stepR_inScope))⟩
  | exit id' =>
    have hx : exitTo id' (.inScope c :: k) = exitTo id' k := by simp [exitTo]
    exact ⟨.exit id', a₁, w₁, hq, fun k' hk => .head h0 stepR_scope (harr.1 k' (by rw [hx]; exact hk)),
      fun hr' hk => let ⟨k₁, h1, h2⟩ := harr.2 hr' (by rw [hx]; exact hk); ⟨k₁, h1, .head h0 stepR_scope h2⟩⟩
  | goto l => exact hq.elim
  | ret => exact ⟨_, a₁, w₁, hq, .of_steps (.one h0 stepR_scope) harr⟩
  | panic ch => exact ⟨_, a₁, w₁, hq, .of_steps (.one h0 stepR_scope) harr⟩
  | outgrown => exact ⟨_, a₁, w₁, hq, .of_steps (.one h0 stepR_scope) harr⟩
theorem not_Li_replicate {N i : Nat} : ¬ Li (Array.replicate N false) i := by
  unfold Li
  rw [Array.getD_eq_getD_getElem?, Array.getElem?_replicate]
  split <;> simp
theorem draw_sound {ih : IhC} (hS : Sound P G ih) {ops : Array Oper} {n : Nat} {d : List DE} {t : PT AV} {σ : AHeap} {e : Ex} {t' : PT AV} {d' : List DE} {σ' : AHeap} (h : drawX P G ih ops n d t σ = .ok e t' d' σ')
    {ρ : Ren} {w : World} {a : Act} (hi : Inv ρ σ w) (hg : GR ρ G) (ht : TR ρ t n a.tmps) (hd : DR ρ d a.defers) (rl : Option Nat) (m : Nat) {Q : Exit → Act → World → Prop}
    (hQ : ∀ (ρ' : Ren) (w' : World) (a' : Act), Inv ρ' σ' w' → Stp ρ σ w ρ' σ' w' → TR ρ' t' n a'.tmps → DR ρ' d' a'.defers → Qx Q ρ' e a' w') :
    wpAnyIn (fenc rl) m P .any ops Q ops.size (Array.replicate ops.size false) a { w with drawn := w.drawn + 1 } := by
  unfold drawX at h
  rw [ite_cond] at h
  split at h
  · rename_i hc
    obtain ⟨hs, hc2⟩ := fast_ok hc
    refine draw_any (A := ancA P ops) (n := n) (d := d) (t₀ := t) (ρ₀ := ρ) (σ₀ := σ) (w₀ := w) hs hS rl m rfl hQ ops.size (plan P ops) [] t σ _ ρ _ a ?_ ?_
    · refine ⟨h, hc2, hi.drew, Stp.drew ρ σ w, hd, hg, ht.1, by simp, fun i hi => (by cases hi), trivial, fun i hL => absurd hL not_Li_replicate, fun i hi => (by cases hi), fun i j _ hL => absurd hL not_Li_replicate, fun i j _ hi => (by cases hi), fun i hi => (by cases hi),
        fun i k v hL => absurd hL not_Li_replicate, fun k v _ hv => ht.2 k v hv, fun _ _ => rfl, fun i hi => (by cases hi), ?_⟩
      simp_all
    · exact Nat.le_trans List.countP_le_length (by simp)
  · cases h
theorem enter_sound {ro : Option Pos} {rl : Option Nat} {d d₁ : List DE} {σ σ₁ : AHeap} {df : Pos} {ρ : Ren} {w : World} {a : Act} {t : PT AV} {n : Nat} (h : marksX ro d σ = some (df, σ₁, d₁)) (hi : Inv ρ σ w) (ht : TR ρ t n a.tmps) (hd : DR ρ d a.defers) (hr : RO ρ ro rl)
    (fn : FuncId) (ps : Array Tmp) (assign body : Code) :
    ∃ l mark w₁ ρ₁, (Instr.enterLoop fn a.tmps ps assign body rl).run P w = .ok (l, mark) w₁ ∧ Inv ρ₁ (σ₁.alloc (.loop .ready none t n ps.toList assign body df)) w₁ ∧ Stp ρ σ w ρ₁ (σ₁.alloc (.loop .ready none t n ps.toList assign body df)) w₁ ∧
      ρ₁ σ₁.next = some ⟨l, 0, 0⟩ ∧ DR ρ₁ d₁ (mark ++ a.defers) := by
  unfold marksX at h
  cases ro with
  | none =>
    cases rl with
    | some _ => exact hr.elim
    | none =>
    cases h
    obtain ⟨i1, s1⟩ := hi.alloc (o := .mark) (x := .deferred (some [])) (l := ⟨w.heap.size, 0, 0⟩) rfl rfl
    have hle1 := s1.le hi
    obtain ⟨i2, s2⟩ := i1.alloc (o := .loop .ready none t n ps.toList assign body σ.next) (x := .loop { state := .ready, pending := none, fn := fn, tmps := a.tmps, params := ps, assign := assign, body := body, defers := w.heap.size }) (l := ⟨w.heap.size + 1, 0, 0⟩) (by simp)
      ⟨fn, a.tmps, ⟨w.heap.size, 0, 0⟩, by simp, Ren.with_same _ _ _, ht.mono hle1⟩
    refine ⟨_, _, _, _, run_enterLoop_outer fn a.tmps ps assign body, i2, s1.trans s2, Ren.with_same _ _ _, ?_⟩
    exact ⟨⟨w.heap.size, 0, 0⟩, a.defers, s2.le i1 _ _ (Ren.with_same _ _ _), rfl, hd.mono (fun b l hb => s2.le i1 _ _ (hle1 b l hb))⟩
  | some b =>
    cases rl with
    | none => exact hr.elim
    | some l₀ =>
    obtain ⟨loc, hl, rfl⟩ := hr
    dsimp only at h
    cases hb : σ.m.get b with
    | none => rw [hb] at h; cases h
    | some ob =>
    rw [hb] at h
    cases ob with
    | loop st p tmps n' ps' as' bd df' =>
      cases h
      obtain ⟨x, hh, fn', tmps', l', rfl, hdf, htm⟩ := hi.obj b _ loc hb hl
      obtain ⟨i2, s2⟩ := hi.alloc (o := .loop .ready none t n ps.toList assign body df) (x := .loop { state := .ready, pending := none, fn := fn, tmps := a.tmps, params := ps, assign := assign, body := body, defers := l'.blk }) (l := ⟨w.heap.size, 0, 0⟩) rfl
        ⟨fn, a.tmps, l', by simp, hdf, ht⟩
      exact ⟨_, _, _, _, run_enterLoop_inner hh fn a.tmps ps assign body, i2, s2, Ren.with_same _ _ _, hd.mono (s2.le hi)⟩
    | _ => cases h
theorem then_other {K : Act → World → Prop} {Q : Exit → Act → World → Prop} {ρ : Ren} {e : Ex} {a : Act} {w : World} (he : e ≠ .normal) (h : Qx Q ρ e a w) : Qx (Exit.then K Q) ρ e a w := by
  intro E hE
  have h' := h E hE
  cases e with
  | normal => exact absurd rfl he
  | pan v => obtain ⟨x, rfl, _⟩ := hE; exact h'
  | exit i => have hE : E = .exit i := hE; subst hE; exact h'
  | goto i => have hE : E = .goto i := hE; subst hE; exact h'
  | ret => have hE : E = .ret := hE; subst hE; exact h'
theorem range_sound {ih : IhC} (hS : Sound P G ih) {g : Operand} {ps : Array Tmp} {assign body : Code} {t : PT AV} {n : Nat} {d : List DE} {ro : Option Pos} {σ : AHeap} {e : Ex} {t' : PT AV} {d' : List DE} {σ' : AHeap}
    (h : rangeX P G ih g ps assign body t n d ro σ = .ok e t' d' σ') {ρ : Ren} {w : World} {a : Act} {rl : Option Nat} {m : Nat} {Q : Exit → Act → World → Prop} (hi : Inv ρ σ w) (hg : GR ρ G) (ht : TR ρ t n a.tmps) (hd : DR ρ d a.defers) (hr : RO ρ ro rl)
    (hQ : ∀ (ρ' : Ren) (w' : World) (a' : Act), Inv ρ' σ' w' → Stp ρ σ w ρ' σ' w' → TR ρ' t' n a'.tmps → DR ρ' d' a'.defers → Qx Q ρ' e a' w') : (Code.rangeFunc g ps assign body).wpIn (fenc rl) m P Q a w := by
  unfold rangeX at h
  cases hm : marksX ro d σ with
  | none => rw [hm] at h; cases h
  | some q =>
  obtain ⟨df, σ₁, d₁⟩ := q
  rw [hm] at h
  dsimp only at h
  cases hv : evalT G t g with
  | none => rw [hv] at h; cases h
  | some fv =>
  rw [hv] at h
  cases fv with
  | func f fi ca =>
    dsimp only at h
    rw [ite_cond] at h
    split at h
    · rename_i hgo
      refine wpIn_rangeFunc fun fn _ => ?_
      obtain ⟨l, mark, w₁, ρ₁, g1, g2, g3, g4, g5⟩ := enter_sound (P := P) hm hi ht hd hr fn ps assign body
      have hle := g3.le hi
      have hfv := eval_sound (a := a) hg ht hv
      simp only [VR] at hfv
      obtain ⟨fi', ca', hev, hfi, hca⟩ := hfv
      have hres : (resolve a.eval (rangeCall g l) 0).run P w₁ = .ok { target := .fn (.func f) ca', args := fi' ++ #[.func (.yield l) #[] #[]] } w₁ := by
        have hm1 : (#[Operand.const (.func (.yield l) #[] #[])]).map a.eval = #[.func (.yield l) #[] #[]] := by simp [Act.eval]
        simp only [resolve, rangeCall, hm1, hev, Deferred.ofValue, Sem.run_pure]
      have hinv : (invoke (.fn (.func f) ca') (fi' ++ #[.func (.yield l) #[] #[]])).run P w₁ = .ok (.enter f (fi' ++ #[.func (.yield l) #[] #[]] ++ ca')) w₁ := by
        simp only [invoke]
        exact isGo_sound hgo
      refine ⟨l, mark, w₁, _, w₁, f, _, w₁, by rw [fenc_round]; exact g1, hres, fun f' _ => fenc_fn rl f', hinv, fenc_deep rl m, ?_⟩
      cases hc : callX P G ih f (appN fi (.yield σ₁.next :: ca)) (σ₁.alloc (.loop .ready none t n ps.toList assign body df)) with
      | err k => rw [hc] at h; cases h
      | pan v σ₃ => rw [hc] at h; cases h
      | ret v σ₃ =>
      rw [hc] at h
      dsimp only at h
      refine call_sound hS hc g2 (hg.mono hle) ?_ rl _ fun ρ₃ w₃ x i₃ s₃ hx => ?_
      · rw [appN_eq]
        have : (fi' ++ #[Value.func (.yield l) #[] #[]] ++ ca').toList = fi'.toList ++ (.func (.yield l) #[] #[] :: ca'.toList) := by simp
        rw [this]
        refine VRs.append (VRs.mono hle _ _ hfi) (VRs.cons ?_ (VRs.mono hle _ _ hca))
        simp only [VR]
        exact ⟨_, g4, rfl⟩
      · have hl₃ := s₃.le g2 _ _ g4
        have hle₃ : ρ.le ρ₃ := fun b l hb => s₃.le g2 _ _ (hle b l hb)
        unfold afterX at h
        cases hb : σ₃.m.get σ₁.next with
        | none => rw [hb] at h; cases h
        | some ob =>
        rw [hb] at h
        cases ob with
        | loop st p tmps n' ps' as bd df' =>
          dsimp only at h
          obtain ⟨y, hh, fn', tmps', l', rfl, hdf, htm⟩ := i₃.obj _ _ _ hb hl₃
          have hnb : st ≠ .busy := fun hst => by subst hst; cases h
          have h' : (match p with
              | none => CR.ok .normal t d₁ (σ₃.setObj σ₁.next (.loop .exhausted none tmps n' ps' as bd df'))
              | some c => ih c t n d₁ ro (σ₃.setObj σ₁.next (.loop .exhausted (some c) tmps n' ps' as bd df'))) = .ok e t' d' σ' := by
            cases st <;> first | exact absurd rfl hnb | exact h
          obtain ⟨i₄, s₄⟩ := i₃.putObj (o' := .loop .exhausted p tmps n' ps' as bd df') hb hl₃ rfl rfl
            (x := .loop { state := .exhausted, pending := p, fn := fn', tmps := tmps', params := ps'.toArray, assign := as, body := bd, defers := l'.blk }) ⟨fn', tmps', l', rfl, hdf, htm⟩
          refine ⟨p, _, run_endLoop hh hnb, ?_⟩
          have hst := (g3.trans s₃).trans s₄
          have hle₁₃ : ρ₁.le ρ₃ := s₃.le g2
          cases p with
          | none =>
            cases h'
            exact hQ ρ₃ _ { a with defers := mark ++ a.defers } i₄ hst (ht.mono hle₃) (g5.mono hle₁₃) _ rfl
          | some c =>
            exact hS.run c t n d₁ ro _ e t' d' σ' h' ρ₃ _ { a with defers := mark ++ a.defers } rl m Q i₄ (hg.mono hle₃) (ht.mono hle₃) (g5.mono hle₁₃) (hr.mono hle₃) fun ρ' w' a' i' s' t'' d'' => hQ ρ' w' a' i' (hst.trans s') t'' d''
        | _ => cases h
    · cases h
  | _ => cases h
theorem run_sound (hm : P.follows .mixedOrders = true) (hC : CxOK P G) (k : Nat) : Sound P G (runX P G k) := by
  induction k using Nat.strongRecOn with
  | _ k ihk =>
    cases k with
    | zero => exact ⟨hC, fun c t n d ro σ e t' d' σ' h => by cases h⟩
    | succ j =>
      have hS := ihk j (Nat.lt_succ_self j)
      refine ⟨hC, fun c t n d ro σ e t' d' σ' h ρ w a rl m Q hi hg ht hd hr hQ => ?_⟩
      have h : stepX P G (runX P G j) c t n d ro σ = .ok e t' d' σ' := h
      cases c with
      | skip => cases h; exact wpIn_skip (hQ ρ w a hi (Stp.refl _ _ _) ht hd _ rfl)
      | label l => cases h; exact wpIn_label (hQ ρ w a hi (Stp.refl _ _ _) ht hd _ rfl)
      | exit id => cases h; exact wpIn_exit (hQ ρ w a hi (Stp.refl _ _ _) ht hd _ rfl)
      | ret => cases h; exact wpIn_ret (hQ ρ w a hi (Stp.refl _ _ _) ht hd _ rfl)
      | region id ops draw =>
        cases draw with
        | false =>
          have h' : (bif hasDef ops.toList then .err 96 else fixD d (opsX P G (runX P G j) ops n d ops.toList t σ)) = .ok e t' d' σ' := h
          refine wpIn_region ?_
          rw [ite_cond] at h'
          split at h'
          · cases h'
          have := ops_sound hS rl (m := m) (Q := Q) ops.toList 0 rfl t σ ρ w a h' hi hg ht hd hQ
          rw [List.range_eq_range']
          simpa using this
        | true =>
          have h' : drawX P G (runX P G j) ops n d t σ = .ok e t' d' σ' := h
          grind [wpIn_region_any, draw_sound]
      | seq x y =>
        have h' : seqX (runX P G j x t n d ro σ) (fun t d σ => runX P G j y t n d ro σ) = .ok e t' d' σ' := h
        refine wpIn_seq ?_
        cases hx : runX P G j x t n d ro σ with
        | err q => rw [hx] at h'; cases h'
        | ok e₁ t₁ d₁ σ₁ =>
          rw [hx] at h'
          by_cases he : e₁ = .normal
          · subst he
            refine hS.run x t n d ro σ _ t₁ d₁ σ₁ hx ρ w a rl m _ hi hg ht hd hr fun ρ₁ w₁ a₁ i₁ s₁ ht₁ hd₁ E hE => ?_
            have hE : E = .normal := hE
            subst hE
            have hle := s₁.le hi
            exact hS.run y t₁ n d₁ ro σ₁ e t' d' σ' h' ρ₁ w₁ a₁ rl m Q i₁ (hg.mono hle) ht₁ hd₁ (hr.mono hle) fun ρ' w' a' i' s' => hQ ρ' w' a' i' (s₁.trans s')
          · have h'' : CR.ok e₁ t₁ d₁ σ₁ = .ok e t' d' σ' := by cases e₁ <;> first | exact absurd rfl he | exact h'
            cases h''
            exact hS.run x t n d ro σ _ _ _ _ hx ρ w a rl m _ hi hg ht hd hr fun ρ₁ w₁ a₁ i₁ s₁ ht₁ hd₁ => then_other he (hQ ρ₁ w₁ a₁ i₁ s₁ ht₁ hd₁)
      | cond x y z =>
        have h' : condX (evalT G t x) (runX P G j y t n d ro σ) (runX P G j z t n d ro σ) = .ok e t' d' σ' := h
        unfold condX at h'
        split at h'
        · rename_i hv
          have := eval_sound (a := a) hg ht hv
          simp only [VR] at this
          exact wpIn_cond_true this (hS.run y t n d ro σ e t' d' σ' h' ρ w a rl m Q hi hg ht hd hr hQ)
        · rename_i hv
          have := eval_sound (a := a) hg ht hv
          simp only [VR] at this
          exact wpIn_cond_false this (hS.run z t n d ro σ e t' d' σ' h' ρ w a rl m Q hi hg ht hd hr hQ)
        · cases h'
      | block id x =>
        have h' : blockX id (runX P G j x t n d ro σ) = .ok e t' d' σ' := h
        refine wpIn_block ?_
        cases hx : runX P G j x t n d ro σ with
        | err q => rw [hx] at h'; cases h'
        | ok e₁ t₁ d₁ σ₁ =>
          rw [hx] at h'
          refine hS.run x t n d ro σ e₁ t₁ d₁ σ₁ hx ρ w a rl m _ hi hg ht hd hr fun ρ₁ w₁ a₁ i₁ s₁ ht₁ hd₁ E hE => ?_
          cases e₁ with
          | exit q =>
            have hE : E = .exit q := hE
            subst hE
            unfold blockX at h'
            dsimp only at h'
            rw [ite_cond] at h'
            split at h'
            · rename_i hq
              cases h'
              have := Nat.eq_of_beq_eq_true hq
              subst this
              simp only [Exit.inBlock, if_true]
              exact hQ ρ₁ w₁ a₁ i₁ s₁ ht₁ hd₁ _ rfl
            · rename_i hq
              cases h'
              have hne : ¬ q = id := fun e => hq (by simp_all)
              simp only [Exit.inBlock, if_neg hne]
              exact hQ ρ₁ w₁ a₁ i₁ s₁ ht₁ hd₁ _ rfl
          | normal => have hE : E = .normal := hE; subst hE; cases h'; exact hQ ρ₁ w₁ a₁ i₁ s₁ ht₁ hd₁ _ rfl
          | goto q => have hE : E = .goto q := hE; subst hE; cases h'; exact hQ ρ₁ w₁ a₁ i₁ s₁ ht₁ hd₁ _ rfl
          | ret => have hE : E = .ret := hE; subst hE; cases h'; exact hQ ρ₁ w₁ a₁ i₁ s₁ ht₁ hd₁ _ rfl
          | pan v => cases h'; have h2 := hQ ρ₁ w₁ a₁ i₁ s₁ ht₁ hd₁ E hE; obtain ⟨y, rfl, _⟩ := hE; exact h2
      | scope x =>
        have h' : scopeX (runX P G j x t n d ro σ) = .ok e t' d' σ' := h
        refine wpIn_scope ?_
        cases hx : runX P G j x t n d ro σ with
        | err q => rw [hx] at h'; cases h'
        | ok e₁ t₁ d₁ σ₁ =>
          rw [hx] at h'
          refine hS.run x t n d ro σ e₁ t₁ d₁ σ₁ hx ρ w a rl m _ hi hg ht hd hr fun ρ₁ w₁ a₁ i₁ s₁ ht₁ hd₁ E hE => ?_
          cases e₁ with
          | goto q => cases h'
          | normal => have hE : E = .normal := hE; subst hE; cases h'; exact hQ ρ₁ w₁ a₁ i₁ s₁ ht₁ hd₁ _ rfl
          | exit q => have hE : E = .exit q := hE; subst hE; cases h'; exact hQ ρ₁ w₁ a₁ i₁ s₁ ht₁ hd₁ _ rfl
          | ret => have hE : E = .ret := hE; subst hE; cases h'; exact hQ ρ₁ w₁ a₁ i₁ s₁ ht₁ hd₁ _ rfl
          | pan v => cases h'; have h2 := hQ ρ₁ w₁ a₁ i₁ s₁ ht₁ hd₁ E hE; obtain ⟨y, rfl, _⟩ := hE; exact h2
      | loop x =>
        refine wpIn_loop_ghost (fun i a₁ w₁ => i ≤ j + 1 ∧ ∃ t₁ d₁ σ₁ ρ₁, runX P G i (.loop x) t₁ n d₁ ro σ₁ = .ok e t' d' σ' ∧ Inv ρ₁ σ₁ w₁ ∧ Stp ρ σ w ρ₁ σ₁ w₁ ∧ TR ρ₁ t₁ n a₁.tmps ∧ DR ρ₁ d₁ a₁.defers) (j + 1)
          ⟨Nat.le_refl _, t, d, σ, ρ, h, hi, Stp.refl _ _ _, ht, hd⟩ fun i a₁ w₁ hI => ?_
        obtain ⟨hij, t₁, d₁, σ₁, ρ₁, hrun, i₁, s₁, ht₁, hd₁⟩ := hI
        have hle := s₁.le hi
        cases i with
        | zero => cases hrun
        | succ i =>
          have hSi := ihk i (by omega)
          have h' : seqX (runX P G i x t₁ n d₁ ro σ₁) (fun t d σ => runX P G i (.loop x) t n d ro σ) = .ok e t' d' σ' := hrun
          cases hx : runX P G i x t₁ n d₁ ro σ₁ with
          | err q => rw [hx] at h'; cases h'
          | ok e₂ t₂ d₂ σ₂ =>
            rw [hx] at h'
            by_cases he : e₂ = .normal
            · subst he
              refine hSi.run x t₁ n d₁ ro σ₁ _ t₂ d₂ σ₂ hx ρ₁ w₁ a₁ rl m _ i₁ (hg.mono hle) ht₁ hd₁ (hr.mono hle) fun ρ₂ w₂ a₂ i₂ s₂ ht₂ hd₂ E hE => ?_
              have hE : E = .normal := hE
              subst hE
              exact ⟨i, Nat.lt_succ_self i, by omega, t₂, d₂, σ₂, ρ₂, h', i₂, s₁.trans s₂, ht₂, hd₂⟩
            · have h'' : CR.ok e₂ t₂ d₂ σ₂ = .ok e t' d' σ' := by cases e₂ <;> first | exact absurd rfl he | exact h'
              cases h''
              exact hSi.run x t₁ n d₁ ro σ₁ _ _ _ _ hx ρ₁ w₁ a₁ rl m _ i₁ (hg.mono hle) ht₁ hd₁ (hr.mono hle) fun ρ₂ w₂ a₂ i₂ s₂ ht₂ hd₂ => then_other he (hQ ρ₂ w₂ a₂ i₂ (s₁.trans s₂) ht₂ hd₂)
      | rangeFunc g ps assign body => exact range_sound hS h hi hg ht hd hr hQ
      | _ => cases h
theorem evalCall_sound (hm : P.follows .mixedOrders = true) (hC : CxOK P G) {fuel f : Nat} {args : List AV} {σ σ' : AHeap} {v : AV} (h : evalCall P G fuel f args σ = .ret v σ') {ρ : Ren} {w : World} {xs : Array Value} (hi : Inv ρ σ w) (hg : GR ρ G) (hx : VRs ρ args xs.toList)
    {R : Ending → World → Prop} (hR : ∀ (ρ' : Ren) (w' : World) (x : Value), Inv ρ' σ' w' → Stp ρ σ w ρ' σ' w' → VR ρ' v x → R (.returned x) w') : Calls P f xs w R :=
  callsIn_wide.1 (call_sound (run_sound hm hC fuel) h hi hg hx none 0 hR)
def σ0 : AHeap := ⟨0, .leaf⟩
end
end Go.Ev
namespace Go.Ev
variable [Env]
open Go.ChangeShapes Go.WideShapes Go.ChangeAt Go.RowKit
theorem Keeps.kept {w w' : World} (h : Keeps w w') (may : MemPlace → Prop) : w.keptBut w' may := by
  refine ⟨h.os, h.out.1, fun i hi => ?_⟩
  rw [h.same i hi]
  grind
theorem Keeps.frozen {w w' : World} (h : Keeps w w') (a : Addr) (ha : a.block < w.heap.size) : w'.frozen? a = w.frozen? a := by
  unfold World.frozen?
  rw [h.same a.block ha]
theorem post_keeps {H : Type} {enc : TypeId × Value → H} {P : Program} {f : Func} {s : ChangeSpec} {apart fresh handsOn again : Bool} {W W' : World} {args : Array Value} {v : Value} {ds gs : List (DataW H)} {before pa pv : List MemPlace}
    (hW : DataW.Whole enc P f.params.toList s.vars apart W args.toList ds gs before)
    (hres : ∀ (b : Nat) (sp : Nat → Bool) (hd : Bool), DataW.TrodAll enc P W' b sp hd f.resultTypes.toList (v.resultList f.resultTypes.size) (s.fn H (ds ++ gs)).results [])
    (hargs : ∀ sp : Nat → Bool, (∀ p ∈ before, sp p.block = true) → DataW.TrodAll enc P W' 0 sp true f.params.toList args.toList (s.fn H (ds ++ gs)).args pa)
    (hvars : ∀ sp : Nat → Bool, (∀ p ∈ before, sp p.block = true) → DataW.TrodVars enc P W' sp s.vars (s.fn H (ds ++ gs)).vars pv)
    (hps : before = pa ++ pv) (hk : Keeps W W')
    (hok : ∀ (j : Nat) (t : TypeId) (r : Value), f.resultTypes[j]? = some t → (v.resultList f.resultTypes.size)[j]? = some r → Value.okWide P W' .any 0 t r) :
    s.post enc P f apart fresh handsOn again W args v W' := by
  have hold : ∀ p ∈ before, (fun b => decide (b < W.heap.size)) p.block = true := fun p hp => by simpa using hW.lt p hp
  refine ⟨ds, gs, before, [], pa, pv, hW, hres _ _ _, hargs _ hold, hvars _ hold, hk.kept _, fun _ => ?_⟩
  have hlt := hW.lt
  obtain ⟨_, _, _, _, _, hz, hn⟩ := hW
  refine ⟨hok, _, _, ([] ++ pa) ++ pv, ⟨[] ++ pa, pv, trodAll_append (hargs _ (fun _ _ => rfl)) (hres _ _ _), hvars _ (fun _ _ => rfl), rfl, ?_, ?_⟩, ?_⟩
  · intro b off hp
    have hp' : MemPlace.cell b off ∈ before := by simp_all
    rw [hk.frozen _ (hlt _ hp')]
    exact hz b off hp'
  · simp_all
  simp_all
end Go.Ev
namespace Go.Ev
variable [Env]
structure IK where
  k : IntKind
  n : Int
structure PO where
  b : Pos
  off : Nat
structure SL where
  b : Pos
  off : Nat
  len : Nat
def asI : AV → Option IK
  | .int k n => some ⟨k, n⟩
  | _ => none
def asP : AV → Option PO
  | .ptr b off => some ⟨b, off⟩
  | _ => none
def asS : AV → Option SL
  | .slice b off len _ => some ⟨b, off, len⟩
  | _ => none
def asN : AV → Option Nat
  | .int _ (.ofNat i) => some i
  | _ => none
def asB : AV → Option Bool
  | .bool b => some b
  | _ => none
def asT : AV → Option (List AV)
  | .tuple l => some l
  | _ => none
def rowOf : AObj → Option (List AV)
  | .row cells _ _ => some cells
  | .own cells _ => some cells
  | _ => none
theorem asI_some {v : AV} {i : IK} (h : asI v = some i) : v = .int i.k i.n := by
  unfold asI at h; grind
def valF (σ : AHeap) (e : Nat) (v : Option AV) : HR := Option.rec (motive := fun _ => HR) (.err e) (fun v => .val v σ) v
theorem valF_eq (σ : AHeap) (e : Nat) (v : Option AV) : valF σ e v = match v with | some v => .val v σ | none => .err e := by cases v <;> rfl
structure OdC where
  run : PT AV → Option AV
def odC (G : Cx) (x : Operand) : OdC :=
  match x with
  | .tmp k => bif Nat.ble k 255 then ⟨fun t => get2 t.s k⟩ else ⟨fun t => t.get k⟩
  | .const v => ⟨fun _ => ofVal v⟩
  | .global g => ⟨fun _ => bif Nat.ble (Nat.succ g) G.gl then some (.ptr (posOf g) 0) else none⟩
  | .func f => ⟨fun _ => some (.func f [] [])⟩
theorem odC_eq (G : Cx) (x : Operand) (t : PT AV) : (odC G x).run t = evalT G t x := by
  cases x with
  | tmp k =>
    show (bif Nat.ble k 255 then (⟨fun t => get2 t.s k⟩ : OdC) else ⟨fun t => t.get k⟩).run t = t.get k
    grind [PT.get_s, ble_iff]
  | _ => rfl
structure BiC where
  run : AV → AV → Option AV
def iiF (P : Program) (q : Bool) (o : BinOp) (ty : TypeId) (f : IntKind → Int → Int → AV) (a b : AV) : Option AV :=
  Option.rec (motive := fun _ => Option AV) (binN P q o ty a b) (fun i => Option.rec (motive := fun _ => Option AV) (binN P q o ty a b) (fun j => bif eqK i.k j.k then some (f i.k i.n j.n) else none) (asI b)) (asI a)
theorem iiF_eq {P : Program} {q : Bool} {o : BinOp} {ty : TypeId} {f : IntKind → Int → Int → AV} (h : ∀ k x k' y, binN P q o ty (.int k x) (.int k' y) = bif eqK k k' then some (f k x y) else none) (a b : AV) : iiF P q o ty f a b = binN P q o ty a b := by
  unfold iiF
  cases ha : asI a with
  | none => rfl
  | some i =>
    cases hb : asI b with
    | none => rfl
    | some j =>
      rw [asI_some ha, asI_some hb, h]
def ltF (_ : IntKind) (x y : Int) : AV := .bool (ltI x y)
def gtF (_ : IntKind) (x y : Int) : AV := .bool (ltI y x)
def leF (_ : IntKind) (x y : Int) : AV := .bool (bif ltI y x then false else true)
def geF (_ : IntKind) (x y : Int) : AV := .bool (bif ltI x y then false else true)
def eqF (_ : IntKind) (x y : Int) : AV := .bool (eqI x y)
def neF (_ : IntKind) (x y : Int) : AV := .bool (bif eqI x y then false else true)
def addF (k : IntKind) (x y : Int) : AV := .int k (wr k (Int.add x y))
def subF (k : IntKind) (x y : Int) : AV := .int k (wr k (Int.sub x y))
def mulF (k : IntKind) (x y : Int) : AV := .int k (wr k (Int.mul x y))
def biC (P : Program) (q : Bool) (o : BinOp) (ty : TypeId) : BiC :=
  match o with
  | .lss => ⟨iiF P q .lss ty ltF⟩
  | .gtr => ⟨iiF P q .gtr ty gtF⟩
  | .leq => ⟨iiF P q .leq ty leF⟩
  | .geq => ⟨iiF P q .geq ty geF⟩
  | .eql => ⟨iiF P q .eql ty eqF⟩
  | .neq => ⟨iiF P q .neq ty neF⟩
  | .add => ⟨iiF P q .add ty addF⟩
  | .sub => ⟨iiF P q .sub ty subF⟩
  | .mul => ⟨iiF P q .mul ty mulF⟩
  | o => ⟨fun a b => binN P q o ty a b⟩
theorem biC_eq (P : Program) (q : Bool) (o : BinOp) (ty : TypeId) (a b : AV) : (biC P q o ty).run a b = binN P q o ty a b := by
  cases o <;> first | rfl | exact iiF_eq (fun _ _ _ _ => rfl) a b
def b2F (c : BiC) (x y : Option AV) : Option AV :=
  Option.rec (motive := fun _ => Option AV) none (fun a => Option.rec (motive := fun _ => Option AV) none (fun b => c.run a b) y) x
def pickF (c a b : Option AV) : Option AV :=
  Option.rec (motive := fun _ => Option AV) none (fun c => Option.rec (motive := fun _ => Option AV) none (fun c => bif c then a else b) (asB c)) c
def exF (i : Nat) (x : Option AV) : Option AV :=
  Option.rec (motive := fun _ => Option AV) none (fun x => Option.rec (motive := fun _ => Option AV) none (fun l => nth l i) (asT x)) x
def ldF (ag : Option (Option Nat)) (cells : List AV) (off : Nat) : Option AV :=
  Option.rec (motive := fun _ => Option AV) none (fun o => Option.rec (motive := fun _ => Option AV) (nth cells off) (fun n => bif Nat.ble (Nat.add off n) (lenN cells) then some (.agg (takeN (dropN cells off) n)) else none) o) ag
def loadF (ag : Option (Option Nat)) (σ : AHeap) (x : Option AV) : Option AV :=
  Option.rec (motive := fun _ => Option AV) none (fun v => Option.rec (motive := fun _ => Option AV) none (fun p => Option.rec (motive := fun _ => Option AV) none
    (fun o => Option.rec (motive := fun _ => Option AV) none (fun cells => ldF ag cells p.off) (rowOf o)) (σ.m.get p.b)) (asP v)) x
def faOff (P : Program) (s : TypeId) (i : Nat) : Option Nat :=
  match structOf P s with
  | some fs => match fs[i]? with
    | some f => match infoF P f.type with
      | some j => bif Nat.beq j.size 0 then none else some f.offset
      | none => none
    | none => none
  | none => none
def faF (k : Option Nat) (x : Option AV) : Option AV :=
  Option.rec (motive := fun _ => Option AV) none (fun k => Option.rec (motive := fun _ => Option AV) none (fun v => Option.rec (motive := fun _ => Option AV) none (fun p => some (.ptr p.b (Nat.add p.off k))) (asP v)) x) k
structure IA where
  n : Option Nat
  sz : Nat
def iaInfo (P : Program) (t : TypeId) : Option IA :=
  match underF P t with
  | some (.slice e) => match infoF P e with | some j => some ⟨none, j.size⟩ | none => none
  | some (.array n e) => match infoF P e with | some j => some ⟨some n, j.size⟩ | none => none
  | _ => none
def iaGo (q : IA) (v : AV) (i : Nat) : Option AV :=
  Option.rec (motive := fun _ => Option AV)
    (Option.rec (motive := fun _ => Option AV) none (fun s => bif Nat.ble (Nat.succ i) s.len then some (.ptr s.b (Nat.add s.off (Nat.mul i q.sz))) else none) (asS v))
    (fun n => Option.rec (motive := fun _ => Option AV) none (fun p => bif Nat.ble (Nat.succ i) n then some (.ptr p.b (Nat.add p.off (Nat.mul i q.sz))) else none) (asP v)) q.n
def iaF (q : Option IA) (x i : Option AV) : Option AV :=
  Option.rec (motive := fun _ => Option AV) none (fun q => Option.rec (motive := fun _ => Option AV) none (fun v => Option.rec (motive := fun _ => Option AV) none
    (fun w => Option.rec (motive := fun _ => Option AV) none (fun i => iaGo q v i) (asN w)) i) x) q
structure OpC where
  run : PT AV → AHeap → HR
def callV (P : Program) (G : Cx) (σ : AHeap) (f : Option AV) (args : Option (List AV)) : HR :=
  Option.rec (motive := fun _ => HR) (.err 12) (fun g => Option.rec (motive := fun _ => HR) (.err 12) (fun args => callA P G.ov σ g args) args) f
def evsC (G : Cx) (l : List Operand) (t : PT AV) : Option (List AV) := allSome (fun x => (odC G x).run t) l
def opC (P : Program) (G : Cx) (op : Op) : OpC :=
  match op with
  | .move x => ⟨fun t σ => valF σ 1001 ((odC G x).run t)⟩
  | .assign x => ⟨fun t σ => valF σ 1002 ((odC G x).run t)⟩
  | .pick c a b => ⟨fun t σ => valF σ 1003 (pickF ((odC G c).run t) ((odC G a).run t) ((odC G b).run t))⟩
  | .binOp o ty x y _ => ⟨fun t σ => valF σ 1014 (b2F (biC P (isK x || isK y) o ty) ((odC G x).run t) ((odC G y).run t))⟩
  | .extract x i => ⟨fun t σ => valF σ 1036 (exF i ((odC G x).run t))⟩
  | .load ty x => ⟨fun t σ => valF σ 2009 (loadF (aggOf P ty) σ ((odC G x).run t))⟩
  | .fieldAddr s x i => ⟨fun t σ => valF σ 1024 (faF (faOff P s i) ((odC G x).run t))⟩
  | .indexAddr ty x i => ⟨fun t σ => valF σ 1026 (iaF (iaInfo P ty) ((odC G x).run t) ((odC G i).run t))⟩
  | .call c => match c.callee with
    | .value f => ⟨fun t σ => callV P G σ ((odC G f).run t) (evsC G c.args.toList t)⟩
    | _ => ⟨fun t σ => opX P G (evalT G t) σ (.call c)⟩
  | op => ⟨fun t σ => opX P G (evalT G t) σ op⟩
theorem opC_eq (P : Program) (G : Cx) (op : Op) (t : PT AV) (σ : AHeap) : (opC P G op).run t σ = opX P G (evalT G t) σ op := by
  cases op with
  | move x => show valF σ 1001 ((odC G x).run t) = _; rw [odC_eq, valF_eq]; rfl
  | assign x => show valF σ 1002 ((odC G x).run t) = _; rw [odC_eq, valF_eq]; rfl
  | pick c a b =>
    show valF σ 1003 (pickF ((odC G c).run t) ((odC G a).run t) ((odC G b).run t)) = _
    rw [odC_eq, odC_eq, odC_eq, valF_eq]
    have : pickF (evalT G t c) (evalT G t a) (evalT G t b) = pureA P (evalT G t) (.pick c a b) := by
      simp only [pureA, pickF]
      cases evalT G t c with
      | none => rfl
      | some v => cases v <;> first | rfl | (rename_i b; cases b <;> rfl)
    rw [this]; rfl
  | binOp o ty x y r =>
    show valF σ 1014 (b2F (biC P (isK x || isK y) o ty) ((odC G x).run t) ((odC G y).run t)) = _
    rw [odC_eq, odC_eq, valF_eq]
    have : b2F (biC P (isK x || isK y) o ty) (evalT G t x) (evalT G t y) = pureA P (evalT G t) (.binOp o ty x y r) := by
      simp only [pureA, b2F]
      cases evalT G t x with
      | none => rfl
      | some v =>
        cases evalT G t y with
        | none => rfl
        | some u => exact biC_eq P _ o ty v u
    rw [this]; rfl
  | extract x i =>
    show valF σ 1036 (exF i ((odC G x).run t)) = _
    rw [odC_eq, valF_eq]
    have : exF i (evalT G t x) = pureA P (evalT G t) (.extract x i) := by
      simp only [pureA, exF]
      cases evalT G t x with
      | none => rfl
      | some v => cases v <;> rfl
    rw [this]; rfl
  | load ty x =>
    show valF σ 2009 (loadF (aggOf P ty) σ ((odC G x).run t)) = _
    rw [odC_eq, valF_eq]
    have : loadF (aggOf P ty) σ (evalT G t x) = readA P (evalT G t) σ (.load ty x) := by
      simp only [readA, loadF]
      cases evalT G t x with
      | none => rfl
      | some v =>
        cases v <;> first | rfl | skip
        rename_i b off
        show Option.rec (motive := fun _ => Option AV) none _ (σ.m.get b) = _
        cases hb : σ.m.get b with
        | none => dsimp only; rw [hb]
        | some o =>
          dsimp only
          rw [hb]
          cases o <;> first | rfl | skip
          all_goals
            show ldF (aggOf P ty) _ off = _
            unfold ldF
            cases aggOf P ty with
            | none => rfl
            | some q => cases q <;> rfl
    rw [this]; rfl
  | fieldAddr s x i =>
    show valF σ 1024 (faF (faOff P s i) ((odC G x).run t)) = _
    rw [odC_eq, valF_eq]
    have : faF (faOff P s i) (evalT G t x) = pureA P (evalT G t) (.fieldAddr s x i) := by
      simp only [pureA, faOff, infoF_eq]
      cases structOf P s with
      | none => rfl
      | some fs =>
        dsimp only
        cases hx : evalT G t x with
        | none =>
          cases fs[i]? with
          | none => rfl
          | some f => dsimp only; cases P.info? f.type with
            | none => rfl
            | some j => dsimp only; cases Nat.beq j.size 0 <;> rfl
        | some v =>
          cases hf : fs[i]? with
          | none => cases v <;> first | rfl | (simp only [hf]; rfl)
          | some f =>
            dsimp only
            cases hj : P.info? f.type with
            | none => cases v <;> first | rfl | (simp only [hf, hj]; rfl)
            | some j =>
              dsimp only
              cases hz : Nat.beq j.size 0 <;> (cases v <;> first | rfl | (simp only [hf, hj, hz]; rfl))
    rw [this]; rfl
  | indexAddr ty x i =>
    show valF σ 1026 (iaF (iaInfo P ty) ((odC G x).run t) ((odC G i).run t)) = _
    rw [odC_eq, odC_eq, valF_eq]
    have : iaF (iaInfo P ty) (evalT G t x) (evalT G t i) = pureA P (evalT G t) (.indexAddr ty x i) := by
      simp only [pureA, iaInfo, infoF_eq, underF_eq]
      cases hu : P.underlying ty with
      | none => rfl
      | some d =>
        cases d <;> first | rfl | skip
        all_goals
          dsimp only
          rename_i e
          cases hj : P.info? e with
          | none =>
            cases evalT G t x with
            | none => rfl
            | some v => cases v <;> first | rfl | (cases evalT G t i with
              | none => rfl
              | some u => cases u <;> first | rfl | (rename_i k n; cases n <;> first | rfl | (simp only [hj]; rfl)))
          | some j =>
            cases evalT G t x with
            | none => rfl
            | some v => cases v <;> first | (cases evalT G t i with
              | none => rfl
              | some u => cases u <;> first | rfl | (rename_i k n; cases n <;> first | rfl | (simp only [hj]; rfl)))
    rw [this]; rfl
  | call c =>
    cases hc : c.callee with
    | value f =>
      have h1 : (opC P G (.call c)).run t σ = callV P G σ ((odC G f).run t) (evsC G c.args.toList t) := by
        show (match c.callee with
          | .value f => (⟨fun t σ => callV P G σ ((odC G f).run t) (evsC G c.args.toList t)⟩ : OpC)
          | _ => ⟨fun t σ => opX P G (evalT G t) σ (.call c)⟩).run t σ = _
        rw [hc]
      have h2 : opX P G (evalT G t) σ (.call c) = heavyA P G.ov (evalT G t) σ (.call c) := by
        grind [opX, kindOf]
      have h3 : evsC G c.args.toList t = evs (evalT G t) c.args.toList := by
        unfold evsC evs
        congr 1
        funext x
        exact odC_eq G x t
      rw [h1, h2, odC_eq, h3]
      simp only [heavyA, hc, callV]
      cases evalT G t f with
      | none => rfl
      | some g => cases evs (evalT G t) c.args.toList <;> rfl
    | _ =>
      show (match c.callee with
          | .value f => (⟨fun t σ => callV P G σ ((odC G f).run t) (evsC G c.args.toList t)⟩ : OpC)
          | _ => ⟨fun t σ => opX P G (evalT G t) σ (.call c)⟩).run t σ = _
      rw [hc]
  | _ => rfl
structure PuC where
  run : PT AV → AV → Nat → (PT AV → CR) → CR
structure PtC where
  run : AV → PT AV → PT AV
def ptC (j : Nat) : PtC :=
  bif Nat.ble j 255 then ⟨fun v t => PT.rec (motive := fun _ => PT AV) (fun s m l => ⟨(updC (Nat.div j 16)).run s ((updC (Nat.mod j 16)).run ((selC (Nat.div j 16)).run s) (some v)), m, l⟩) t⟩
  else ⟨fun v t => t.put (some v) j⟩
theorem ptC_eq (j : Nat) (v : AV) (t : PT AV) : (ptC j).run v t = t.put (some v) j := by
  unfold ptC
  cases h : Nat.ble j 255 with
  | true =>
    cases t with
    | mk s m l => exact (PT.put_s (some v) s m l ((ble_iff j 255).1 h)).symm
  | false => rfl
def putF (j : Nat) (v : AV) (t : PT AV) : PT AV := (ptC j).run v t
theorem putF_eq (j : Nat) (v : AV) (t : PT AV) : putF j v t = t.put (some v) j := ptC_eq j v t
def puC (n : Nat) (dst : Option Nat) : PuC :=
  match dst with
  | none => ⟨fun t _ _ k => k t⟩
  | some j => bif Nat.ble (Nat.succ j) n then ⟨fun t v _ k => k (putF j v t)⟩ else ⟨fun _ _ e _ => .err e⟩
theorem puC_eq (n : Nat) (dst : Option Nat) (t : PT AV) (v : AV) (e : Nat) (k : PT AV → CR) : (puC n dst).run t v e k = match putT t n dst v with | some t' => k t' | none => .err e := by
  cases dst with
  | none => rfl
  | some j =>
    show (bif Nat.ble (Nat.succ j) n then (⟨fun t v _ k => k (putF j v t)⟩ : PuC) else ⟨fun _ _ e _ => .err e⟩).run t v e k = _
    show _ = match (bif Nat.ble (Nat.succ j) n then some (t.put (some v) j) else none) with | some t' => k t' | none => .err e
    rw [← putF_eq]
    grind
structure FnC where
  run : IhC → List AV → AHeap → KR
def retF (P : Program) (G : Cx) (ih : IhC) (fn : Func) (r : CR) : KR :=
  match r with
  | .ok .normal t d σ => endX P G ih fn .ret t d σ
  | .ok .ret t d σ => endX P G ih fn .ret t d σ
  | .ok (.pan v) t d σ => endX P G ih fn (.pan v) t d σ
  | .err k => .err k
  | _ => .err 72
def fnGo (P : Program) (G : Cx) (fn : Func) (c : Code) (ih : IhC) (args : List AV) (σ : AHeap) : KR :=
  Option.rec (motive := fun _ => KR) (.err 73) (fun t => retF P G ih fn (ih c t fn.ntmps [] none σ)) (argsT fn.ntmps args)
def fnC (P : Program) (G : Cx) (f : Nat) : FnC :=
  match nth P.funcs.toList f with
  | some fn => match fn.body with
    | some c => ⟨fnGo P G fn c⟩
    | none => ⟨fun _ _ _ => .err 73⟩
  | none => ⟨fun _ _ _ => .err 74⟩
theorem fnC_eq (P : Program) (G : Cx) (f : Nat) (ih : IhC) (args : List AV) (σ : AHeap) : (fnC P G f).run ih args σ = callC P G ih f args σ := by
  unfold fnC callC
  rw [nth_eq, Array.getElem?_toList]
  cases P.funcs[f]? with
  | none => rfl
  | some fn =>
    dsimp only
    cases hb : fn.body with
    | none => rfl
    | some c =>
      dsimp only
      show fnGo P G fn c ih args σ = _
      unfold fnGo
      cases argsT fn.ntmps args with
      | none => rfl
      | some t => rfl
def callF (P : Program) (G : Cx) (ih : IhC) (f : Nat) (args : List AV) (σ : AHeap) : KR :=
  Option.rec (motive := fun _ => KR) (Option.rec (motive := fun _ => KR) (Option.rec (motive := fun _ => KR) (bif G.fk f then noPanK (forkY P G ih f args σ) else (fnC P G f).run ih args σ) (fun c => .err c) (G.stop f args σ)) (fun v => bif allFlat args && (flatB v && laidGo G.gl σ G.laid) then .ret v σ else .err 79) (G.tbl f args)) (fun r => .ret r.1 r.2) (G.ktb f args σ)
theorem callF_eq (P : Program) (G : Cx) (ih : IhC) (f : Nat) (args : List AV) (σ : AHeap) : callF P G ih f args σ = callX P G ih f args σ := by
  unfold callF callX
  rw [fnC_eq]
  cases G.ktb f args σ with
  | some v => rfl
  | none =>
  dsimp only
  cases G.tbl f args with
  | some v => rfl
  | none =>
    dsimp only
    cases G.stop f args σ <;> rfl
structure StC where
  run : IhC → PT AV → AHeap → (PT AV → AHeap → CR) → CR
def kAt (k : PT AV → AHeap → CR) (σ : AHeap) (t : PT AV) : CR := k t σ
def krF (pn : Bool) (c : PuC) (t : PT AV) (k : PT AV → AHeap → CR) (r : KR) : CR :=
  KR.rec (motive := fun _ => CR) (fun v σ => c.run t v 80 (kAt k σ)) (fun v σ => panX pn v t σ) (fun e => .err e) r
def hrF (P : Program) (G : Cx) (ih : IhC) (pn : Bool) (c : PuC) (t : PT AV) (k : PT AV → AHeap → CR) (r : HR) : CR :=
  HR.rec (motive := fun _ => CR) (fun v σ => c.run t v 80 (kAt k σ)) (fun σ => c.run t unit 80 (kAt k σ)) (fun f args σ => krF pn c t k (callF P G ih f args σ)) (fun l args σ => krF pn c t k (roundX ih l args σ)) (fun v σ => panX pn v t σ) (fun e => .err e) r
def wantF (ops : Array Oper) (o : Oper) (c : PuC) (t : PT AV) (σ : AHeap) (k : PT AV → AHeap → CR) (go : CR) (w : Option Bool) : CR :=
  Option.rec (motive := fun _ => CR) (.err 85) (fun b => bif b then go else c.run t unit 84 (kAt k σ)) w
def stV (P : Program) (G : Cx) (j : Nat) (op : Op) : Option StC :=
  match op with
  | .move x => some ⟨fun _ t σ k => Option.rec (motive := fun _ => CR) (.err 1001) (fun v => k ((ptC j).run v t) σ) ((odC G x).run t)⟩
  | .assign x => some ⟨fun _ t σ k => Option.rec (motive := fun _ => CR) (.err 1002) (fun v => k ((ptC j).run v t) σ) ((odC G x).run t)⟩
  | .binOp o ty x y _ => some ⟨fun _ t σ k => Option.rec (motive := fun _ => CR) (.err 1014) (fun v => k ((ptC j).run v t) σ) (b2F (biC P (isK x || isK y) o ty) ((odC G x).run t) ((odC G y).run t))⟩
  | .extract x i => some ⟨fun _ t σ k => Option.rec (motive := fun _ => CR) (.err 1036) (fun v => k ((ptC j).run v t) σ) (exF i ((odC G x).run t))⟩
  | .load ty x => some ⟨fun _ t σ k => Option.rec (motive := fun _ => CR) (.err 2009) (fun v => k ((ptC j).run v t) σ) (loadF (aggOf P ty) σ ((odC G x).run t))⟩
  | .fieldAddr s x i => some ⟨fun _ t σ k => Option.rec (motive := fun _ => CR) (.err 1024) (fun v => k ((ptC j).run v t) σ) (faF (faOff P s i) ((odC G x).run t))⟩
  | .indexAddr ty x i => some ⟨fun _ t σ k => Option.rec (motive := fun _ => CR) (.err 1026) (fun v => k ((ptC j).run v t) σ) (iaF (iaInfo P ty) ((odC G x).run t) ((odC G i).run t))⟩
  | _ => none
theorem stV_eq {P : Program} {G : Cx} {pn : Bool} {n j : Nat} (hj : Nat.ble (Nat.succ j) n = true) {op : Op} {c : StC} (h : stV P G j op = some c) (ih : IhC) (t : PT AV) (σ : AHeap) (k : PT AV → AHeap → CR) :
    c.run ih t σ k = hrF P G ih pn (puC n (some j)) t k ((opC P G op).run t σ) := by
  have key : ∀ (e : Nat) (x : Option AV), Option.rec (motive := fun _ => CR) (.err e) (fun v => k ((ptC j).run v t) σ) x = hrF P G ih pn (puC n (some j)) t k (valF σ e x) := by
    intro e x
    cases x with
    | none => rfl
    | some v =>
      show k ((ptC j).run v t) σ = (puC n (some j)).run t v 80 (kAt k σ)
      unfold puC
      dsimp only
      rw [hj]
      rfl
  cases op <;> first | (cases h; done) | (cases h; exact key _ _)
def stS (P : Program) (G : Cx) (pn : Bool) (n : Nat) (o : Oper) : StC :=
  match o.dst with
  | some j => bif Nat.ble (Nat.succ j) n then (match stV P G j o.op with | some c => c | none => ⟨fun ih t σ k => hrF P G ih pn (puC n (some j)) t k ((opC P G o.op).run t σ)⟩) else ⟨fun ih t σ k => hrF P G ih pn (puC n (some j)) t k ((opC P G o.op).run t σ)⟩
  | none => ⟨fun ih t σ k => hrF P G ih pn (puC n none) t k ((opC P G o.op).run t σ)⟩
theorem stS_eq (P : Program) (G : Cx) (pn : Bool) (n : Nat) (o : Oper) (ih : IhC) (t : PT AV) (σ : AHeap) (k : PT AV → AHeap → CR) : (stS P G pn n o).run ih t σ k = hrF P G ih pn (puC n o.dst) t k ((opC P G o.op).run t σ) := by
  unfold stS
  cases hd : o.dst with
  | none => rfl
  | some j =>
    dsimp only
    cases hj : Nat.ble (Nat.succ j) n with
    | false => rfl
    | true =>
      simp only [cond_true]
      grind [stV_eq]
def stC (P : Program) (G : Cx) (pn : Bool) (ops : Array Oper) (n : Nat) (o : Oper) : StC :=
  match o.guard with
  | none => stS P G pn n o
  | some _ => ⟨fun ih t σ k => wantF ops o (puC n o.dst) t σ k (hrF P G ih pn (puC n o.dst) t k ((opC P G o.op).run t σ)) (wantedA ops t o)⟩
theorem hrF_eq (P : Program) (G : Cx) (ih : IhC) (pn : Bool) (n : Nat) (dst : Option Nat) (t : PT AV) (k : PT AV → AHeap → CR) (r : HR) :
    hrF P G ih pn (puC n dst) t k r = match effX P G ih r with | .ret v σ' => (match putT t n dst v with | some t' => k t' σ' | none => .err 80) | .pan v σ' => panX pn v t σ' | .err e => .err e := by
  cases r with
  | val v σ => show (puC n dst).run t v 80 (kAt k σ) = _; rw [puC_eq]; rfl
  | skip σ => show (puC n dst).run t unit 80 (kAt k σ) = _; rw [puC_eq]; rfl
  | enter f args σ =>
    show krF pn (puC n dst) t k (callF P G ih f args σ) = _
    rw [callF_eq]
    show _ = match callX P G ih f args σ with | .ret v σ' => _ | .pan v σ' => _ | .err e => _
    cases callX P G ih f args σ with
    | ret v σ' => show (puC n dst).run t v 80 (kAt k σ') = _; rw [puC_eq]; rfl
    | pan v σ' => rfl
    | err e => rfl
  | round l args σ =>
    show krF pn (puC n dst) t k (roundX ih l args σ) = _
    show _ = match roundX ih l args σ with | .ret v σ' => _ | .pan v σ' => _ | .err e => _
    cases roundX ih l args σ with
    | ret v σ' => show (puC n dst).run t v 80 (kAt k σ') = _; rw [puC_eq]; rfl
    | pan v σ' => rfl
    | err e => rfl
  | pan v σ => rfl
  | err e => rfl
theorem stC_eq (P : Program) (G : Cx) (pn : Bool) (ops : Array Oper) (n : Nat) (o : Oper) (ih : IhC) (t : PT AV) (σ : AHeap) (k : PT AV → AHeap → CR) : (stC P G pn ops n o).run ih t σ k = oneX P G ih pn ops n o t σ k := by
  unfold stC oneX
  cases hg : o.guard with
  | none =>
    grind [wantedA, stS_eq, hrF_eq, opC_eq]
  | some jw =>
    show wantF ops o (puC n o.dst) t σ k (hrF P G ih pn (puC n o.dst) t k ((opC P G o.op).run t σ)) (wantedA ops t o) = _
    rw [hrF_eq, opC_eq]
    unfold wantF
    cases wantedA ops t o with
    | none => rfl
    | some b =>
      grind [kAt, puC_eq]
def regC (P : Program) (G : Cx) (ops : Array Oper) (n : Nat) (l : List Oper) : StC :=
  List.rec (motive := fun _ => StC) ⟨fun _ t σ k => k t σ⟩ (fun o _ c => ⟨fun ih t σ k => (stC P G true ops n o).run ih t σ (fun t σ => c.run ih t σ k)⟩) l
def endF (d : List DE) (t : PT AV) (σ : AHeap) : CR := .ok .normal t d σ
theorem regC_eq (P : Program) (G : Cx) (ops : Array Oper) (n : Nat) (ih : IhC) (d : List DE) : ∀ (l : List Oper) (t : PT AV) (σ : AHeap), (regC P G ops n l).run ih t σ (endF d) = opsX P G ih ops n d l t σ
  | [], t, σ => rfl
  | o :: l, t, σ => by
    show (stC P G true ops n o).run ih t σ (fun t σ => (regC P G ops n l).run ih t σ (endF d)) = oneX P G ih true ops n o t σ (opsX P G ih ops n d l)
    rw [stC_eq]
    congr 1
    funext t' σ'
    exact regC_eq P G ops n ih d l t' σ'
def againC (P : Program) (G : Cx) (ops : Array Oper) (rc : List Nat) (k : PT AV → AHeap → CR) (t : PT AV) (σ : AHeap) : CR := bif stillAll P G ops t σ rc then k t σ else .err 86
def planC (P : Program) (G : Cx) (ops : Array Oper) (n : Nat) (l : List (Nat × List Nat)) : StC :=
  List.rec (motive := fun _ => StC) ⟨fun _ t σ k => k t σ⟩ (fun p _ c => match nth ops.toList p.1 with
    | some o => (match p.2 with
      | [] => ⟨fun ih t σ k => (stC P G false ops n o).run ih t σ (fun t σ => c.run ih t σ k)⟩
      | rc => ⟨fun ih t σ k => (stC P G false ops n o).run ih t σ (againC P G ops rc (fun t σ => c.run ih t σ k))⟩)
    | none => ⟨fun _ _ _ _ => .err 87⟩) l
theorem planC_eq (P : Program) (G : Cx) (ops : Array Oper) (n : Nat) (ih : IhC) (d : List DE) : ∀ (l : List (Nat × List Nat)) (t : PT AV) (σ : AHeap), (planC P G ops n l).run ih t σ (endF d) = planX P G ih ops n d l t σ
  | [], t, σ => rfl
  | (i, rc) :: l, t, σ => by
    show (match nth ops.toList i with
      | some o => (match rc with
        | [] => (⟨fun ih t σ k => (stC P G false ops n o).run ih t σ (fun t σ => (planC P G ops n l).run ih t σ k)⟩ : StC)
        | rc => ⟨fun ih t σ k => (stC P G false ops n o).run ih t σ (againC P G ops rc (fun t σ => (planC P G ops n l).run ih t σ k))⟩)
      | none => ⟨fun _ _ _ _ => .err 87⟩).run ih t σ (endF d) = (match ops[i]? with
      | some o => oneX P G ih false ops n o t σ (fun t' σ' => bif stillAll P G ops t' σ' rc then planX P G ih ops n d l t' σ' else .err 86)
      | none => .err 87)
    rw [nth_eq, Array.getElem?_toList]
    cases ops[i]? with
    | none => rfl
    | some o =>
      dsimp only
      cases rc with
      | nil =>
        show (stC P G false ops n o).run ih t σ (fun t σ => (planC P G ops n l).run ih t σ (endF d)) = _
        rw [stC_eq]
        congr 1
        funext t' σ'
        exact planC_eq P G ops n ih d l t' σ'
      | cons q rc =>
        show (stC P G false ops n o).run ih t σ (againC P G ops (q :: rc) (fun t σ => (planC P G ops n l).run ih t σ (endF d))) = _
        rw [stC_eq]
        congr 1
        funext t' σ'
        unfold againC
        dsimp only
        rw [planC_eq P G ops n ih d l t' σ']
structure CoC where
  run : IhC → PT AV → List DE → Option Pos → AHeap → CR
def coC (P : Program) (G : Cx) (c : Code) (n : Nat) : CoC :=
  match c with
  | .skip | .label _ => ⟨fun _ t d _ σ => .ok .normal t d σ⟩
  | .region _ ops draw => bif draw then (bif fastOK P ops then ⟨fun ih t d _ σ => (planC P G ops n (plan P ops)).run ih t σ (endF d)⟩ else ⟨fun _ _ _ _ _ => .err 88⟩)
      else (bif hasDef ops.toList then ⟨fun _ _ _ _ _ => .err 96⟩ else ⟨fun ih t d _ σ => fixD d ((regC P G ops n ops.toList).run ih t σ (endF d))⟩)
  | .seq a b => ⟨fun ih t d ro σ => seqX (ih a t n d ro σ) (fun t d σ => ih b t n d ro σ)⟩
  | .cond x a b => ⟨fun ih t d ro σ => condX ((odC G x).run t) (ih a t n d ro σ) (ih b t n d ro σ)⟩
  | .block id b => ⟨fun ih t d ro σ => blockX id (ih b t n d ro σ)⟩
  | .scope b => ⟨fun ih t d ro σ => scopeX (ih b t n d ro σ)⟩
  | .loop b => ⟨fun ih t d ro σ => seqX (ih b t n d ro σ) (fun t d σ => ih (.loop b) t n d ro σ)⟩
  | .exit id => ⟨fun _ t d _ σ => .ok (.exit id) t d σ⟩
  | .ret => ⟨fun _ t d _ σ => .ok .ret t d σ⟩
  | .rangeFunc g ps assign body => ⟨fun ih t d ro σ => rangeX P G ih g ps assign body t n d ro σ⟩
  | _ => ⟨fun _ _ _ _ _ => .err 99⟩
theorem coC_eq (P : Program) (G : Cx) (c : Code) (n : Nat) (ih : IhC) (t : PT AV) (d : List DE) (ro : Option Pos) (σ : AHeap) : (coC P G c n).run ih t d ro σ = stepX P G ih c t n d ro σ := by
  cases c with
  | region id ops draw =>
    cases draw with
    | false =>
      show (bif hasDef ops.toList then (⟨fun _ _ _ _ _ => .err 96⟩ : CoC) else ⟨fun ih t d _ σ => fixD d ((regC P G ops n ops.toList).run ih t σ (endF d))⟩).run ih t d ro σ = bif hasDef ops.toList then .err 96 else fixD d (opsX P G ih ops n d ops.toList t σ)
      grind [regC_eq]
    | true =>
      show (bif fastOK P ops then (⟨fun ih t d _ σ => (planC P G ops n (plan P ops)).run ih t σ (endF d)⟩ : CoC) else ⟨fun _ _ _ _ _ => .err 88⟩).run ih t d ro σ = drawX P G ih ops n d t σ
      grind [drawX, planC_eq]
  | cond x a b => show condX ((odC G x).run t) _ _ = _; rw [odC_eq]; rfl
  | _ => rfl
def runF (P : Program) (G : Cx) (fuel : Nat) : IhC := Nat.rec (motive := fun _ => IhC) (fun _ _ _ _ _ _ => .err 100) (fun _ ih c t n d ro σ => (coC P G c n).run ih t d ro σ) fuel
theorem runF_eq (P : Program) (G : Cx) : ∀ (fuel : Nat), runF P G fuel = runX P G fuel
  | 0 => rfl
  | k + 1 => by
    funext c t n d ro σ
    show (coC P G c n).run (runF P G k) t d ro σ = stepX P G (runX P G k) c t n d ro σ
    rw [coC_eq, runF_eq P G k]
def evalF (P : Program) (G : Cx) (fuel : Nat) (f : Nat) (args : List AV) (σ : AHeap) : KR := callF P G (runF P G fuel) f args σ
theorem evalF_eq (P : Program) (G : Cx) (fuel : Nat) (f : Nat) (args : List AV) (σ : AHeap) : evalF P G fuel f args σ = evalCall P G fuel f args σ := by
  unfold evalF evalCall
  rw [callF_eq, runF_eq]
end Go.Ev
namespace Go.Ev
variable [Env]
open Go.ChangeShapes Go.WideShapes Go.ChangeAt Go.RowKit
def flatG (one : TypeId → DataW Unit → Option (List Value)) (P : Program) : List (Nat × TypeId) → Nat → List (DataW Unit) → Option (List Value)
  | [], _, [] => some []
  | (o, t) :: l, off, d :: ds =>
    match one t d, flatG one P l (off + P.cellsOf t) ds with
    | some vs, some us => if o = off ∧ vs.length = P.cellsOf t then some (vs ++ us) else none
    | _, _ => none
  | _, _, _ => none
def flatD (P : Program) : Nat → TypeId → DataW Unit → Option (List Value)
  | 0, _, _ => none
  | n + 1, t, d =>
    match P.underlying t, d with
    | some .bool, .lit (.bool b) => some [.bool b]
    | some (.int k), .lit (.int k' i) => if k' = k then some [.int k i] else none
    | some (.struct fs), .agg ps => match flatG (flatD P n) P (fs.toList.map fun f => (f.offset, f.type)) 0 ps with
      | some vs => if vs.length = P.cellsOf t then some vs else none
      | none => none
    | some (.array m e), .agg ps => match flatG (flatD P n) P ((List.range m).map fun i => (i * P.cellsOf e, e)) 0 ps with
      | some vs => if vs.length = P.cellsOf t then some vs else none
      | none => none
    | _, _ => none
theorem flatG_eq {P : Program} {w : World} {base : Nat} {sp : Nat → Bool} {held : Bool} {fuel : Nat} {one : TypeId → DataW Unit → Option (List Value)} {cs : List Value}
    (ih : ∀ t l d p vs, DataW.trod (fun _ => ()) P w base sp held fuel t l = some (d, p) → one t d = some vs → l = vs) {α : Type} (g : α → Nat × TypeId) :
    ∀ (l : List α) (off : Nat) (xs : List (DataW Unit × List MemPlace)) (vs : List Value),
      (l.mapM fun x => DataW.trod (fun _ => ()) P w base sp held fuel (g x).2 ((cs.drop (g x).1).take (P.cellsOf (g x).2))) = some xs → flatG one P (l.map g) off (xs.map (·.1)) = some vs →
      (cs.drop off).take vs.length = vs
  | [], off, xs, vs, h, hf => by
    simp at h; subst h
    simp [flatG] at hf; subst hf; simp
  | x :: l, off, xs, vs, h, hf => by
    simp only [List.mapM_cons, Option.bind_eq_bind, Option.bind_eq_some_iff, Option.pure_def, Option.some.injEq] at h
    obtain ⟨⟨d, p⟩, h1, r, h2, rfl⟩ := h
    simp only [List.map_cons, flatG] at hf
    split at hf
    · rename_i v1 v2 e1 e2
      split at hf
      · rename_i hc
        obtain ⟨ho, hl⟩ := hc
        cases hf
        have k1 := ih _ _ _ _ _ h1 e1
        have k2 := flatG_eq ih g l _ r v2 h2 e2
        grind [List.drop_drop]
      · cases hf
    · cases hf
theorem flatD_eq {P : Program} {w : World} {base : Nat} {sp : Nat → Bool} {held : Bool} : ∀ (m fuel : Nat) (t : TypeId) (cs : List Value) (d : DataW Unit) (p : List MemPlace) (vs : List Value),
    DataW.trod (fun _ => ()) P w base sp held fuel t cs = some (d, p) → flatD P m t d = some vs → cs = vs
  | 0, _, _, _, _, _, _, _, h => by cases h
  | _ + 1, 0, _, _, _, _, _, h, _ => by simp [DataW.trod] at h
  | m + 1, fuel + 1, t, cs, d, p, vs, h, hf => by
    have ih : ∀ t l d p vs, DataW.trod (fun _ => ()) P w base sp held fuel t l = some (d, p) → flatD P m t d = some vs → l = vs := fun t l d p vs => flatD_eq m fuel t l d p vs
    simp only [flatD] at hf
    split at hf
    · rename_i hu
      cases hf
      unfold DataW.trod at h
      grind
    · rename_i hu
      split at hf
      · rename_i hk
        cases hf
        unfold DataW.trod at h
        grind
      · cases hf
    · rename_i fs ps hu
      split at hf
      · rename_i vs' hg
        split at hf
        · rename_i hl
          cases hf
          unfold DataW.trod at h
          rw [hu] at h
          dsimp only at h
          split at h
          · rename_i hcl
            obtain ⟨xs, hm, hx⟩ := Option.map_eq_some_iff.1 h
            have hps : ps = xs.map (·.1) := by simp_all
            subst hps
            have := flatG_eq (cs := cs) ih (fun f : Field => (f.offset, f.type)) fs.toList 0 xs vs hm hg
            grind
          · cases h
        · cases hf
      · cases hf
    · rename_i n e ps hu
      split at hf
      · rename_i vs' hg
        split at hf
        · rename_i hl
          cases hf
          unfold DataW.trod at h
          rw [hu] at h
          dsimp only at h
          split at h
          · rename_i hcl
            obtain ⟨xs, hm, hx⟩ := Option.map_eq_some_iff.1 h
            have hps : ps = xs.map (·.1) := by simp_all
            subst hps
            have := flatG_eq (cs := cs) ih (fun i : Nat => (i * P.cellsOf e, e)) (List.range n) 0 xs vs hm hg
            grind
          · cases h
        · cases hf
      · cases hf
    · cases hf
theorem laid_block {P : Program} {w : World} {l : List (String × DataW Unit)} (n : String) {d : DataW Unit} {g : Nat} {t : TypeId} {m : Nat} {vs : List Value}
    (h : laidMetH P l w) (hl : l.filter (fun x => x.1 == n) = [(n, d)]) (hd : d.handleName? = none) (hg : P.globalNamed n = some g) (ht : (P.globals[g]?).map (·.type) = some t) (hf : flatD P m t d = some vs) :
    ∃ e fr, w.heap[g]? = some (.cells vs.toArray e fr) := by
  have h1 := h.filter fun x => x.1 == n
  rw [hl] at h1
  have h2 : laidMet P [(n, d)] w := by
    grind [laidMetH]
  obtain ⟨ps, ⟨g', t', cs, fuel, p, q, k1, k2, k3, k4, _, _⟩, _, _⟩ := h2
  rw [hg] at k1; cases k1
  rw [ht] at k2; cases k2
  have k5 := flatD_eq m fuel t cs.toList d p vs k4 hf
  unfold World.var? at k3
  rw [hg] at k3
  simp only [Option.bind_some] at k3
  split at k3
  · rename_i cs' e fr hh
    cases k3
    exact ⟨e, fr, by rw [hh, ← k5]⟩
  · cases k3
theorem allSome_at {α β : Type} {f : α → Option β} : ∀ {l : List α} {r : List β}, allSome f l = some r → r.length = l.length ∧ ∀ (i : Nat) (v : β), r[i]? = some v → ∃ y, l[i]? = some y ∧ f y = some v
  | [], r, h => by
    rw [allSome_nil] at h; simp_all
  | x :: l, r, h => by
    obtain ⟨y, r', h1, h2, rfl⟩ := allSome_cons h
    obtain ⟨k1, k2⟩ := allSome_at h2
    grind
theorem LaidIs.of {w : World} {g : Nat} {cells : List AV} {vs : List Value} {e : TypeId} {fr : Nat × Nat} (hb : w.heap[g]? = some (.cells vs.toArray e fr)) (hv : allSome ofLeaf vs = some cells) : LaidIs w (g, cells) := by
  obtain ⟨k1, k2⟩ := allSome_at hv
  refine ⟨vs.toArray, e, fr, hb, by simp [k1], fun i v hi => ?_⟩
  grind [ofLeaf_sound]
def σG (gl : Nat) (l : List (Nat × List AV)) (E : Nat → TypeId) : AHeap := ⟨gl, laidPT l E⟩
theorem σG_get {gl : Nat} {l : List (Nat × List AV)} {E : Nat → TypeId} {b : Nat} {o : AObj} (h : (σG gl l E).m.get b = some o) : ∃ x ∈ l, x.1 = b ∧ o = .row x.2 (E x.1) true := laidPT_get E h
def sizeAt (w : World) (b : Nat) : Nat :=
  match w.heap[b]? with
  | some (.cells cs _ _) => cs.size
  | _ => 0
def elemAt (w : World) (b : Nat) : TypeId :=
  match w.heap[b]? with
  | some (.cells _ e _) => e
  | _ => 0
def ρG (w : World) (gl : Nat) : Ren := fun b => if b < gl then some ⟨b, 0, sizeAt w b⟩ else none
theorem ρG_some {w : World} {gl : Nat} {b : Nat} {l : Loc} (h : ρG w gl b = some l) : b < gl ∧ l = ⟨b, 0, sizeAt w b⟩ := by
  unfold ρG at h
  simp_all
def wfLaid (gl : Nat) (l : List (Nat × List AV)) : Bool := l.all fun x => Nat.blt x.1 gl && allFlat x.2
theorem invG {w : World} {gl : Nat} {l : List (Nat × List AV)} (ho : OldW w) (hgl : gl ≤ w.heap.size) (hwf : wfLaid gl l = true) (hl : ∀ x ∈ l, LaidIs w x) : Inv (ρG w gl) (σG gl l (elemAt w)) w := by
  have hwf' : ∀ x ∈ l, x.1 < gl ∧ allFlat x.2 = true := fun x hx => by
    have := List.all_eq_true.1 hwf x hx
    simp_all
  refine ⟨⟨fun b hb => ?_, fun b l' h => ?_, fun b o l' h1 h2 => ?_, fun b b' o o' l1 l2 h1 h2 h3 h4 he hne => ?_⟩, ho.1, ho.2, fun r _ ⟨b, o, l', h1, h2, _, _⟩ => by
    obtain ⟨x, _, _, rfl⟩ := σG_get h1
    cases h2⟩
  · have hb' : ¬ b < gl := Nat.not_lt.2 hb
    refine ⟨by unfold ρG; rw [if_neg hb'], ?_⟩
    cases h : (σG gl l (elemAt w)).m.get b with
    | none => rfl
    | some o =>
      obtain ⟨x, hx, rfl, _⟩ := σG_get h
      grind
  · obtain ⟨hb, rfl⟩ := ρG_some h
    grind
  · obtain ⟨x, hx, rfl, rfl⟩ := σG_get h1
    obtain ⟨hb, rfl⟩ := ρG_some h2
    obtain ⟨c, e, fr, k1, k2, k3⟩ := hl x hx
    have hs : sizeAt w x.1 = c.size := by unfold sizeAt; rw [k1]
    have he : elemAt w x.1 = e := by unfold elemAt; rw [k1]
    refine ⟨_, k1, c, fr, by rw [he], ?_, ?_, fun i v hv => ?_, fun h => by cases h⟩
    · simp [hs]
    · simp_all
    grind [flat_any, allFlat_mem]
  · obtain ⟨x, hx, rfl, rfl⟩ := σG_get h1
    obtain ⟨y, hy, rfl, rfl⟩ := σG_get h2
    exact ⟨rfl, rfl⟩
theorem Keeps.of_stpG {w w' : World} {gl : Nat} {l : List (Nat × List AV)} {E : Nat → TypeId} {ρ ρ' : Ren} {σ' : AHeap} (h : Stp ρ (σG gl l E) w ρ' σ' w') : Keeps w w' :=
  ⟨h.os, h.out, h.tape, h.size, fun r hr => h.frame r hr fun ⟨b, o, l', h1, h2, _⟩ => by
    obtain ⟨x, _, _, rfl⟩ := σG_get h1
    cases h2⟩
def saysTrue : KR → Bool
  | .ret (.bool true) _ => true
  | _ => false
theorem saysTrue_ret {r : KR} (h : saysTrue r = true) : ∃ σ, r = .ret (.bool true) σ := by
  unfold saysTrue at h
  grind
theorem calls_true {P : Program} {G : Cx} (hm : P.follows .mixedOrders = true) (hC : CxOK P G) {fuel f : Nat} {w : World} (ho : OldW w) (hgl : G.gl ≤ w.heap.size) (hwf : wfLaid G.gl G.laid = true) (hl : ∀ x ∈ G.laid, LaidIs w x)
    (h : ∀ E, saysTrue (evalF P G fuel f [] (σG G.gl G.laid E)) = true) : Calls P f #[] w fun e w' => e = .returned (.bool true) ∧ Keeps w w' := by
  have h := h (elemAt w)
  rw [evalF_eq] at h
  obtain ⟨σ, h⟩ := saysTrue_ret h
  refine evalCall_sound hm hC h (invG ho hgl hwf hl) (fun g hg => ⟨_, by show ρG w G.gl g = _; unfold ρG; rw [if_pos hg]⟩) VRs.nil fun ρ' w' x _ st hv => ?_
  grind [VR, Keeps.of_stpG]
theorem known_true {P : Program} {G : Cx} (hm : P.follows .mixedOrders = true) (hC : CxOK P G) {fuel f : Nat} (hwf : wfLaid G.gl G.laid = true) (h : ∀ E, saysTrue (evalF P G fuel f [] (σG G.gl G.laid E)) = true) : Known P G.gl G.laid f [] (.bool true) := fun w xs hgl ho hl hx => by
  have : xs = #[] := by
    have := hx.nil_inv
    simp_all
  subst this
  exact (calls_true hm hC (w := w) ho hgl hwf hl h).mono fun e w' ⟨h1, h2⟩ => ⟨_, h1, by simp only [VR], h2⟩
end Go.Ev
namespace Go.Ev
variable [Env]
section
variable {P : Program} {G : Cx}
def Ev (P : Program) (G : Cx) (c : Code) (n : Nat) (t : PT AV) (σ : AHeap) (Q : Ex → PT AV → AHeap → Prop) : Prop :=
  ∃ (K : Nat) (e : Ex) (t' : PT AV) (σ' : AHeap), (∀ d ro k, K ≤ k → runX P G k c t n d ro σ = .ok e t' d σ') ∧ Q e t' σ'
def EvCall (P : Program) (G : Cx) (f : Nat) (args : List AV) (σ : AHeap) (R : AV → AHeap → Prop) : Prop :=
  ∃ (K : Nat) (v : AV) (σ' : AHeap), (∀ k, K ≤ k → callX P G (runX P G k) f args σ = .ret v σ') ∧ R v σ'
def EvOps (P : Program) (G : Cx) (ops : Array Oper) (n : Nat) (l : List Oper) (t : PT AV) (σ : AHeap) (Q : Ex → PT AV → AHeap → Prop) : Prop :=
  ∃ (K : Nat) (e : Ex) (t' : PT AV) (σ' : AHeap), (∀ d k, K ≤ k → opsX P G (runX P G k) ops n d l t σ = .ok e t' d σ') ∧ Q e t' σ'
def EvPlan (P : Program) (G : Cx) (ops : Array Oper) (n : Nat) (l : List (Nat × List Nat)) (t : PT AV) (σ : AHeap) (Q : Ex → PT AV → AHeap → Prop) : Prop :=
  ∃ (K : Nat) (e : Ex) (t' : PT AV) (σ' : AHeap), (∀ d k, K ≤ k → planX P G (runX P G k) ops n d l t σ = .ok e t' d σ') ∧ Q e t' σ'
theorem Ev.mono {c : Code} {n : Nat} {t : PT AV} {σ : AHeap} {Q Q' : Ex → PT AV → AHeap → Prop} (h : Ev P G c n t σ Q) (hq : ∀ e t' σ', Q e t' σ' → Q' e t' σ') : Ev P G c n t σ Q' :=
  let ⟨K, e, t', σ', h1, h2⟩ := h; ⟨K, e, t', σ', h1, hq _ _ _ h2⟩
theorem EvCall.mono {f : Nat} {args : List AV} {σ : AHeap} {R R' : AV → AHeap → Prop} (h : EvCall P G f args σ R) (hq : ∀ v σ', R v σ' → R' v σ') : EvCall P G f args σ R' :=
  let ⟨K, v, σ', h1, h2⟩ := h; ⟨K, v, σ', h1, hq _ _ h2⟩
section
variable {n : Nat} {t : PT AV} {σ : AHeap} {Q : Ex → PT AV → AHeap → Prop}
theorem ev_skip (h : Q .normal t σ) : Ev P G .skip n t σ Q := ⟨1, .normal, t, σ, fun d ro k hk => by obtain ⟨j, rfl⟩ : ∃ j, k = j + 1 := ⟨k - 1, by omega⟩; rfl, h⟩
theorem ev_exit {id : Nat} (h : Q (.exit id) t σ) : Ev P G (.exit id) n t σ Q := ⟨1, _, t, σ, fun d ro k hk => by obtain ⟨j, rfl⟩ : ∃ j, k = j + 1 := ⟨k - 1, by omega⟩; rfl, h⟩
theorem ev_ret (h : Q .ret t σ) : Ev P G .ret n t σ Q := ⟨1, _, t, σ, fun d ro k hk => by obtain ⟨j, rfl⟩ : ∃ j, k = j + 1 := ⟨k - 1, by omega⟩; rfl, h⟩
def thenQ (P : Program) (G : Cx) (n : Nat) (b : Code) (Q : Ex → PT AV → AHeap → Prop) (e : Ex) (t : PT AV) (σ : AHeap) : Prop :=
  match e with
  | .normal => Ev P G b n t σ Q
  | e => Q e t σ
theorem ev_seq {a b : Code} (h : Ev P G a n t σ (thenQ P G n b Q)) : Ev P G (.seq a b) n t σ Q := by
  obtain ⟨K, e, t', σ', h1, h2⟩ := h
  have step : ∀ d ro k, K ≤ k → runX P G (k + 1) (.seq a b) t n d ro σ = seqX (.ok e t' d σ') (fun t d σ => runX P G k b t n d ro σ) := fun d ro k hk => by
    show seqX (runX P G k a t n d ro σ) (fun t d σ => runX P G k b t n d ro σ) = _
    rw [h1 d ro k hk]
  cases e with
  | normal =>
    obtain ⟨K2, e2, t2, σ2, h3, h4⟩ := h2
    refine ⟨max K K2 + 1, e2, t2, σ2, fun d ro k hk => ?_, h4⟩
    obtain ⟨j, rfl⟩ : ∃ j, k = j + 1 := ⟨k - 1, by omega⟩
    rw [step d ro j (by omega)]
    exact h3 d ro j (by omega)
  | _ =>
    refine ⟨K + 1, _, t', σ', fun d ro k hk => ?_, h2⟩
    obtain ⟨j, rfl⟩ : ∃ j, k = j + 1 := ⟨k - 1, by omega⟩
    rw [step d ro j (by omega)]
    rfl
theorem ev_cond {x : Operand} {a b : Code} {c : Bool} (hc : evalT G t x = some (.bool c)) (h : Ev P G (if c then a else b) n t σ Q) : Ev P G (.cond x a b) n t σ Q := by
  obtain ⟨K, e, t', σ', h1, h2⟩ := h
  refine ⟨K + 1, e, t', σ', fun d ro k hk => ?_, h2⟩
  obtain ⟨j, rfl⟩ : ∃ j, k = j + 1 := ⟨k - 1, by omega⟩
  show condX (evalT G t x) (runX P G j a t n d ro σ) (runX P G j b t n d ro σ) = _
  rw [hc]
  have := h1 d ro j (by omega)
  cases c <;> exact this
def blockQ (id : Nat) (Q : Ex → PT AV → AHeap → Prop) (e : Ex) (t : PT AV) (σ : AHeap) : Prop :=
  match e with
  | .exit j => if j = id then Q .normal t σ else Q (.exit j) t σ
  | e => Q e t σ
theorem ev_block {id : Nat} {b : Code} (h : Ev P G b n t σ (blockQ id Q)) : Ev P G (.block id b) n t σ Q := by
  obtain ⟨K, e, t', σ', h1, h2⟩ := h
  have step : ∀ d ro k, K ≤ k → runX P G (k + 1) (.block id b) t n d ro σ = blockX id (.ok e t' d σ') := fun d ro k hk => by
    show blockX id (runX P G k b t n d ro σ) = _
    rw [h1 d ro k hk]
  cases e with
  | exit q =>
    by_cases hq : q = id
    · subst hq
      refine ⟨K + 1, .normal, t', σ', fun d ro k hk => ?_, by simpa [blockQ] using h2⟩
      obtain ⟨j, rfl⟩ : ∃ j, k = j + 1 := ⟨k - 1, by omega⟩
      rw [step d ro j (by omega)]
      show (bif Nat.beq q q then _ else _) = _
      simp_all
    · refine ⟨K + 1, .exit q, t', σ', fun d ro k hk => ?_, by simpa [blockQ, hq] using h2⟩
      obtain ⟨j, rfl⟩ : ∃ j, k = j + 1 := ⟨k - 1, by omega⟩
      rw [step d ro j (by omega)]
      show (bif Nat.beq q id then _ else _) = _
      grind [Nat.eq_of_beq_eq_true]
  | _ =>
    refine ⟨K + 1, _, t', σ', fun d ro k hk => ?_, h2⟩
    obtain ⟨j, rfl⟩ : ∃ j, k = j + 1 := ⟨k - 1, by omega⟩
    rw [step d ro j (by omega)]
    rfl
theorem ev_loop {b : Code} (I : Nat → PT AV → AHeap → Prop) (step : ∀ j t σ, I j t σ → Ev P G b n t σ (fun e t' σ' => match e with | .normal => ∃ i, i < j ∧ I i t' σ' | e => Q e t' σ')) :
    ∀ (j : Nat) (t : PT AV) (σ : AHeap), I j t σ → Ev P G (.loop b) n t σ Q := by
  intro j
  induction j using Nat.strongRecOn with
  | _ j ih =>
    intro t σ hI
    obtain ⟨K, e, t', σ', h1, h2⟩ := step j t σ hI
    have st : ∀ d ro k, K ≤ k → runX P G (k + 1) (.loop b) t n d ro σ = seqX (.ok e t' d σ') (fun t d σ => runX P G k (.loop b) t n d ro σ) := fun d ro k hk => by
      show seqX (runX P G k b t n d ro σ) (fun t d σ => runX P G k (.loop b) t n d ro σ) = _
      rw [h1 d ro k hk]
    cases e with
    | normal =>
      obtain ⟨i, hi, hI'⟩ := h2
      obtain ⟨K2, e2, t2, σ2, h3, h4⟩ := ih i hi t' σ' hI'
      refine ⟨max K K2 + 1, e2, t2, σ2, fun d ro k hk => ?_, h4⟩
      obtain ⟨q, rfl⟩ : ∃ q, k = q + 1 := ⟨k - 1, by omega⟩
      rw [st d ro q (by omega)]
      exact h3 d ro q (by omega)
    | _ =>
      refine ⟨K + 1, _, t', σ', fun d ro k hk => ?_, h2⟩
      obtain ⟨q, rfl⟩ : ∃ q, k = q + 1 := ⟨k - 1, by omega⟩
      rw [st d ro q (by omega)]
      rfl
theorem ev_region {id : Nat} {ops : Array Oper} (hd : hasDef ops.toList = false) (h : EvOps P G ops n ops.toList t σ Q) : Ev P G (.region id ops false) n t σ Q := by
  obtain ⟨K, e, t', σ', h1, h2⟩ := h
  refine ⟨K + 1, e, t', σ', fun d ro k hk => ?_, h2⟩
  obtain ⟨j, rfl⟩ : ∃ j, k = j + 1 := ⟨k - 1, by omega⟩
  show (bif hasDef ops.toList then .err 96 else fixD d (opsX P G (runX P G j) ops n d ops.toList t σ)) = _
  rw [hd, h1 d j (by omega)]
  cases e <;> rfl
theorem ev_region_draw {id : Nat} {ops : Array Oper} (hf : fastOK P ops = true) (h : EvPlan P G ops n (plan P ops) t σ Q) : Ev P G (.region id ops true) n t σ Q := by
  obtain ⟨K, e, t', σ', h1, h2⟩ := h
  refine ⟨K + 1, e, t', σ', fun d ro k hk => ?_, h2⟩
  obtain ⟨j, rfl⟩ : ∃ j, k = j + 1 := ⟨k - 1, by omega⟩
  show drawX P G (runX P G j) ops n d t σ = _
  unfold drawX
  simp_all
theorem evOps_nil {ops : Array Oper} (h : Q .normal t σ) : EvOps P G ops n [] t σ Q := ⟨0, .normal, t, σ, fun _ _ _ => rfl, h⟩
theorem evOps_val {ops : Array Oper} {o : Oper} {l : List Oper} {v : AV} {t' : PT AV} {σ' : AHeap} (hw : wantedA ops t o = some true) (hv : opX P G (evalT G t) σ o.op = .val v σ') (hp : putT t n o.dst v = some t') (h : EvOps P G ops n l t' σ' Q) : EvOps P G ops n (o :: l) t σ Q := by
  obtain ⟨K, e, t2, σ2, h1, h2⟩ := h
  refine ⟨K, e, t2, σ2, fun d k hk => ?_, h2⟩
  show oneX P G (runX P G k) true ops n o t σ (opsX P G (runX P G k) ops n d l) = _
  grind [oneX, effX]
theorem evOps_skip {ops : Array Oper} {o : Oper} {l : List Oper} {t' : PT AV} {σ' : AHeap} (hw : wantedA ops t o = some true) (hv : opX P G (evalT G t) σ o.op = .skip σ') (hp : putT t n o.dst unit = some t') (h : EvOps P G ops n l t' σ' Q) : EvOps P G ops n (o :: l) t σ Q := by
  obtain ⟨K, e, t2, σ2, h1, h2⟩ := h
  refine ⟨K, e, t2, σ2, fun d k hk => ?_, h2⟩
  show oneX P G (runX P G k) true ops n o t σ (opsX P G (runX P G k) ops n d l) = _
  grind [oneX, effX]
theorem evOps_unwanted {ops : Array Oper} {o : Oper} {l : List Oper} {t' : PT AV} (hw : wantedA ops t o = some false) (hp : putT t n o.dst unit = some t') (h : EvOps P G ops n l t' σ Q) : EvOps P G ops n (o :: l) t σ Q := by
  obtain ⟨K, e, t2, σ2, h1, h2⟩ := h
  refine ⟨K, e, t2, σ2, fun d k hk => ?_, h2⟩
  show oneX P G (runX P G k) true ops n o t σ (opsX P G (runX P G k) ops n d l) = _
  unfold oneX
  simp_all
theorem evOps_call {ops : Array Oper} {o : Oper} {l : List Oper} {f : Nat} {args : List AV} {σ₁ : AHeap} (hw : wantedA ops t o = some true) (hv : opX P G (evalT G t) σ o.op = .enter f args σ₁)
    (h : EvCall P G f args σ₁ fun v σ' => ∃ t', putT t n o.dst v = some t' ∧ EvOps P G ops n l t' σ' Q) : EvOps P G ops n (o :: l) t σ Q := by
  obtain ⟨K, v, σ', h1, t', hp, K2, e, t2, σ2, h3, h4⟩ := h
  refine ⟨max K K2, e, t2, σ2, fun d k hk => ?_, h4⟩
  show oneX P G (runX P G k) true ops n o t σ (opsX P G (runX P G k) ops n d l) = _
  grind [oneX, effX]
theorem evPlan_nil {ops : Array Oper} (h : Q .normal t σ) : EvPlan P G ops n [] t σ Q := ⟨0, .normal, t, σ, fun _ _ _ => rfl, h⟩
theorem evPlan_val {ops : Array Oper} {i : Nat} {o : Oper} {l : List (Nat × List Nat)} {v : AV} {t' : PT AV} {σ' : AHeap} (hi : ops[i]? = some o) (hw : wantedA ops t o = some true) (hv : opX P G (evalT G t) σ o.op = .val v σ') (hp : putT t n o.dst v = some t') (h : EvPlan P G ops n l t' σ' Q) : EvPlan P G ops n ((i, []) :: l) t σ Q := by
  obtain ⟨K, e, t2, σ2, h1, h2⟩ := h
  refine ⟨K, e, t2, σ2, fun d k hk => ?_, h2⟩
  show (match ops[i]? with
    | some o => oneX P G (runX P G k) false ops n o t σ (fun t' σ' => bif stillAll P G ops t' σ' [] then planX P G (runX P G k) ops n d l t' σ' else .err 86)
    | none => .err 87) = _
  rw [hi]
  unfold oneX
  dsimp only
  rw [hw]
  dsimp only
  rw [hv]
  dsimp only [effX]
  rw [hp]
  exact h1 d k hk
theorem evPlan_unwanted {ops : Array Oper} {i : Nat} {o : Oper} {l : List (Nat × List Nat)} {t' : PT AV} (hi : ops[i]? = some o) (hw : wantedA ops t o = some false) (hp : putT t n o.dst unit = some t') (h : EvPlan P G ops n l t' σ Q) : EvPlan P G ops n ((i, []) :: l) t σ Q := by
  obtain ⟨K, e, t2, σ2, h1, h2⟩ := h
  refine ⟨K, e, t2, σ2, fun d k hk => ?_, h2⟩
  show (match ops[i]? with
    | some o => oneX P G (runX P G k) false ops n o t σ (fun t' σ' => bif stillAll P G ops t' σ' [] then planX P G (runX P G k) ops n d l t' σ' else .err 86)
    | none => .err 87) = _
  rw [hi]
  unfold oneX
  dsimp only
  rw [hw]
  dsimp only
  rw [hp]
  exact h1 d k hk
theorem evPlan_call {ops : Array Oper} {i : Nat} {o : Oper} {rc : List Nat} {l : List (Nat × List Nat)} {f : Nat} {args : List AV} {σ₁ : AHeap} (hi : ops[i]? = some o) (hw : wantedA ops t o = some true) (hv : opX P G (evalT G t) σ o.op = .enter f args σ₁)
    (h : EvCall P G f args σ₁ fun v σ' => ∃ t', putT t n o.dst v = some t' ∧ stillAll P G ops t' σ' rc = true ∧ EvPlan P G ops n l t' σ' Q) : EvPlan P G ops n ((i, rc) :: l) t σ Q := by
  obtain ⟨K, v, σ', h1, t', hp, hs, K2, e, t2, σ2, h3, h4⟩ := h
  refine ⟨max K K2, e, t2, σ2, fun d k hk => ?_, h4⟩
  show (match ops[i]? with
    | some o => oneX P G (runX P G k) false ops n o t σ (fun t' σ' => bif stillAll P G ops t' σ' rc then planX P G (runX P G k) ops n d l t' σ' else .err 86)
    | none => .err 87) = _
  grind [oneX, effX]
end
theorem ev_call {f : Nat} {fn : Func} {c : Code} {args : List AV} {σ : AHeap} {R : AV → AHeap → Prop} {t : PT AV} (hktb : G.ktb f args σ = none) (htbl : G.tbl f args = none) (hstop : G.stop f args σ = none) (hfk : G.fk f = false)
    (hf : P.funcs[f]? = some fn) (hb : fn.body = some c) (ha : argsT fn.ntmps args = some t)
    (h : Ev P G c fn.ntmps t σ fun e t' σ' => (e = .normal ∨ e = .ret) ∧ ∃ v, resultsA P fn t' σ' = some v ∧ R v σ') : EvCall P G f args σ R := by
  obtain ⟨K, e, t', σ', h1, he, v, h2, h3⟩ := h
  refine ⟨K, v, σ', fun k hk => ?_, h3⟩
  unfold callX
  rw [hktb]
  dsimp only
  rw [htbl]
  dsimp only
  rw [hstop]
  dsimp only
  rw [hfk]
  simp only [cond_false]
  unfold callC
  rw [hf]
  dsimp only
  rw [hb, ha]
  dsimp only
  rw [h1 [] none k hk]
  rcases he with rfl | rfl <;>
  · dsimp only
    unfold endX
    rw [show leaveX P G (runX P G k) [] .ret σ' = some (.ret, σ') from rfl]
    simp_all
theorem ev_known {f : Nat} {args : List AV} {σ : AHeap} {R : AV → AHeap → Prop} {v : AV} (hktb : G.ktb f args σ = none) (htbl : G.tbl f args = some v) (h1 : allFlat args = true) (h2 : flatB v = true) (h3 : laidGo G.gl σ G.laid = true) (h : R v σ) : EvCall P G f args σ R := by
  refine ⟨0, v, σ, fun k _ => ?_, h⟩
  grind [callX]
end
end Go.Ev
end
