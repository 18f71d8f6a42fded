/- Part of the proof: an evaluator of the model's code, rules for walks on it, walks. Without conditions. -/
import Derived.Test.YtpomgjnfncgkgaaGreatDoorEa
import Derived.RangeFuncNested
import Derived.RecoverIn
import Derived.TacticsIn
import Derived.OrdersIn
import Derived.Sort.LoopGhostIn
import Derived.Scope
import Derived.ProofKit
import Derived.LaidSub
set_option linter.unusedSectionVars false
set_option linter.unusedVariables false
set_option linter.unusedSimpArgs false
namespace Go.Ev
variable [Env]
section
variable {P : Program} {ρ : bN} {σ : av} {w : World}
theorem rj {x y : AV} {a c : Value} (h : oO x y = some true) (hx : VR ρ x a) (hy : VR ρ y c) (n : Nat) : Instr.sameBits n a c = true := by
 unfold oO at h
 split at h
 ·simp only [VR] at hx hy
  subst hx; subst hy
  simp only [Option.some.injEq, jI] at h
  simp only [Instr.sameBits, h]
 ·rename_i j a' k b'
  simp only [aN] at h
  split at h
  ·rename_i hk
   have := mO hk
   subst this
   simp only [Option.some.injEq, dX, decide_eq_true_eq] at h
   subst h
   simp only [VR] at hx hy
   subst hx; subst hy
   simp [Instr.sameBits]
  ·cases h
 ·simp only [VR] at hx hy
  obtain ⟨p, rfl, hp⟩ := hx
  obtain ⟨q, rfl, hq⟩ := hy
  simp only [Option.some.injEq] at h
  rw [lf hp hq] at h
  have e : p.toList = q.toList := by simpa using h
  simp only [Instr.sameBits, beq_toListBytes]
  simpa using e
 ·cases h
theorem nR : ∀ {xs ys : List AV} {as cs : List Value}, mY xs ys = true → bX ρ xs as → bX ρ ys cs → ∀ n, as.length = cs.length ∧ ((as.zip cs).all fun (x, y) => Instr.sameBits n x y) = true
 | [], [], as, cs, _, hx, hy, n => by rw [hx.dD, hy.dD]; simp
 | [], y :: ys, as, cs, h, hx, hy, n => by cases h
 | x :: xs, [], as, cs, h, hx, hy, n => by cases h
 | x :: xs, y :: ys, as, cs, h, hx, hy, n => by
  obtain ⟨a, as', rfl, h1, h2⟩ := hx.cons_inv
  obtain ⟨c, cs', rfl, h3, h4⟩ := hy.cons_inv
  have h' : (match oO x y with | some true => mY xs ys | _ => false) = true := h
  split at h'
  ·rename_i he
   obtain ⟨g1, g2⟩ := nR h' h2 h4 n
   refine ⟨by simp [g1], ?_⟩
   simp only [List.zip_cons_cons, List.all_cons, Bool.and_eq_true]
   exact ⟨rj he h1 h3 n, g2⟩
  ·cases h'
theorem wg {x y : AV} {a c : Value} (h : sameKey x y = true) (hx : VR ρ x a) (hy : VR ρ y c) (n : Nat) : Instr.sameBits (n + 1) a c = true := by
 unfold sameKey at h
 split at h
 ·simp only [VR] at hx hy
  obtain ⟨as, rfl, hx⟩ := hx
  obtain ⟨cs, rfl, hy⟩ := hy
  obtain ⟨g1, g2⟩ := nR h hx hy n
  simp only [Instr.sameBits, Bool.and_eq_true, beq_iff_eq]
  exact ⟨by simpa using g1, g2⟩
 ·split at h
  ·rename_i b hb
   subst h
   exact rj hb hx hy _
  ·cases h
theorem BC (e : dV) (es : List dV) (i : Nat) : vu e es i = es.set i e := qx _ _ _
theorem uq : ∀ (es : List dV) (i : Nat), sG es i = es.eraseIdx i
 | [], i => rfl
 | e :: es, 0 => rfl
 | e :: es, i + 1 => congrArg (e :: ·) (uq es i)
theorem Inv.vq (hi : Inv ρ σ w) {b : Pos} {l : Loc} {es es' : List dV} {clock clock' : Nat} {ys : Array MapEntry} (hb : σ.m.get b = some (.map es clock)) (hl : ρ b = some l) (he : gb ρ es' ys.toList) :
  ∃ w', (setObj l.cF (.map ys clock')).run P w = .ok () w' ∧ Inv ρ (σ.setObj b (.map es' clock')) w' ∧ dA ρ σ w ρ (σ.setObj b (.map es' clock')) w' := by
 obtain ⟨zs, hh, _⟩ := hi.sM hb hl
 refine ⟨{ w with heap := w.heap.setIfInBounds l.cF (.map ys clock') }, by simp [setObj, Sem.run, hh], ?_⟩
 have hlt := hi.cF b l hl
 exact hi.change hb hl rfl rfl (x := .map ys clock') (by simp [Array.getElem?_setIfInBounds, hlt]) ⟨ys, rfl, he⟩
  (fun r hr => by simp [Array.getElem?_setIfInBounds, Ne.symm hr]) (by simp) rfl rfl rfl
theorem pN (hi : Inv ρ σ w) {t : TypeId} {m k v : AV} {ym yk yv : Value} {σ' : av} (h : kq P σ t m k v = some σ') (hm : VR ρ m ym) (hk : VR ρ k yk) (hv : VR ρ v yv) :
  ∃ w', (Instr.mapUpdate t ym yk yv).run P w = .ok () w' ∧ Inv ρ σ' w' ∧ dA ρ σ w ρ σ' w' := by
 unfold kq at h
 split at h
 ·rename_i u1 u2 kt et b hu
  split at h
  ·rename_i es clock hb
   simp only [aN] at h
   split at h
   ·rename_i hpk
    rw [Bool.and_eq_true] at hpk
    obtain ⟨hp, hsh⟩ := hpk
    simp only [VR] at hm
    obtain ⟨l, hl, rfl⟩ := hm
    obtain ⟨ys, hh, he⟩ := hi.sM hb hl
    have hck := jh (w := w) hp hsh hk false
    split at h
    ·rename_i i u hf
     obtain ⟨r', g1, g2⟩ := jN (w := w) hp hk he hf
     cases r' with
     | none => exact g2.elim
     | some q =>
     obtain ⟨j, y⟩ := q
     obtain ⟨rfl, hy⟩ := g2
     rw [dO] at h
     split at h
     ·rename_i e hn
      split at h
      ·rename_i hs
       cases h
       obtain ⟨ye, hye, e1, e2, e3⟩ := he.get hn
       have hsb := wg hs e1 hk 9999
       have hye' : ys[i]? = some ye := by rw [← Array.getElem?_toList]; exact hye
       have hkts : (Instr.keyThatStays (((ys[i]?).map (·.key)).getD yk) yk).run P w = .ok yk w := by
        simp [Instr.keyThatStays, hye', hsb]
       have hmod : (ys.modify i fun e => { e with key := yk, val := yv }).toList = ys.toList.set i { key := yk, val := yv, born := e.born } := by
        apply List.ext_getElem?
        intro q
        rw [Array.getElem?_toList, Array.getElem?_modify, List.getElem?_set]
        have hlt : i < ys.toList.length := (List.getElem?_eq_some_iff.1 hye).1
        by_cases eq : i = q
        ·subst eq; simp [hye', e3]; simpa using hlt
        ·simp [eq]
       obtain ⟨w', r, inv, st⟩ := hi.vq (P := P) (clock' := clock) (es' := vu { key := k, val := v, born := e.born } es i) (ys := ys.modify i fun e => { e with key := yk, val := yv }) hb hl (by
        rw [hmod, BC]; exact he.set i hk hv rfl)
       refine ⟨w', ?_, inv, st⟩
       simp only [Instr.mapUpdate, Sem.run_bind, run_underlying hu, Result.andThen_ok, run_getObj_map hh, hck, g1, hkts, r]
      ·cases h
     ·cases h
    ·rename_i hf
     cases h
     obtain ⟨r', g1, g2⟩ := jN (w := w) hp hk he hf
     cases r' with
     | some q => exact g2.elim
     | none =>
     obtain ⟨w', r, inv, st⟩ := hi.vq (P := P) (clock' := clock + 1) (es' := eJ es [{ key := k, val := v, born := clock }]) (ys := ys.push { key := yk, val := yv, born := clock }) hb hl (by
      rw [cN, Array.toList_push]; exact he.append ⟨_, [], rfl, hk, hv, rfl, rfl⟩)
     refine ⟨w', ?_, inv, st⟩
     simp only [Instr.mapUpdate, Sem.run_bind, run_underlying hu, Result.andThen_ok, run_getObj_map hh, hck, g1, r]
    ·cases h
   ·cases h
  ·cases h
 ·cases h
theorem vL (hi : Inv ρ σ w) {ts : Array TypeId} {ty : TypeId} {m k : AV} {ym yk : Value} {σ' : av} (h : nq P σ ts m k = some σ') (hm : VR ρ m ym) (hk : VR ρ k yk) :
  ∃ w', (Builtin.delete_ ts ty #[ym, yk]).run P w = .ok (.tuple #[]) w' ∧ Inv ρ σ' w' ∧ dA ρ σ w ρ σ' w' := by
 unfold nq at h
 split at h
 ·rename_i t ht
  split at h
  ·rename_i u1 u2 kt et b hu
   split at h
   ·rename_i es clock hb
    simp only [aN] at h
    split at h
    ·rename_i hpk
     rw [Bool.and_eq_true] at hpk
     obtain ⟨hp, hsh⟩ := hpk
     simp only [VR] at hm
     obtain ⟨l, hl, rfl⟩ := hm
     obtain ⟨ys, hh, he⟩ := hi.sM hb hl
     have hck := jh (w := w) hp hsh hk ys.isEmpty
     split at h
     ·rename_i i u hf
      cases h
      obtain ⟨r', g1, g2⟩ := jN (w := w) hp hk he hf
      cases r' with
      | none => exact g2.elim
      | some q =>
      obtain ⟨j, y⟩ := q
      obtain ⟨rfl, hy⟩ := g2
      obtain ⟨w', r, inv, st⟩ := hi.vq (P := P) (clock' := clock) (es' := sG es i) (ys := ys.eraseIdxIfInBounds i) hb hl (by
       rw [Array.toList_eraseIdxIfInBounds, uq]; exact he.erase i)
      refine ⟨w', ?_, inv, st⟩
      simp only [Builtin.delete_, ht, List.getElem?_toArray, List.getElem?_cons_zero, List.getElem?_cons_succ, Sem.run_bind, run_underlying hu, Result.andThen_ok, run_getObj_map hh, hck, g1, r, Sem.run_pure]
     ·rename_i hf
      cases h
      obtain ⟨r', g1, g2⟩ := jN (w := w) hp hk he hf
      cases r' with
      | some q => exact g2.elim
      | none =>
      obtain ⟨w', r, inv, st⟩ := hi.vq (P := P) (clock' := clock) (es' := es) (ys := ys) hb hl he
      refine ⟨w', ?_, inv, st⟩
      simp only [Builtin.delete_, ht, List.getElem?_toArray, List.getElem?_cons_zero, List.getElem?_cons_succ, Sem.run_bind, run_underlying hu, Result.andThen_ok, run_getObj_map hh, hck, g1, r, Sem.run_pure]
     ·cases h
    ·cases h
   ·cases h
  ·cases h
 ·cases h
def HR.isVal : HR → Prop
 | .val .. => True
 | .err _ => True
 | _ => False
theorem y6 (P : Program) (σ : av) (ts : Array TypeId) (s x : AV) : (fl P σ ts s x).isVal := by
 unfold fl
 simp only [aN, grow]
 repeat' (first | trivial | split)
theorem yd (P : Program) (σ : av) (ts : Array TypeId) (s x : AV) : (lX P σ ts s x).isVal := by
 unfold lX
 simp only [aN, grow]
 repeat' (first | trivial | split)
theorem Di (P : Program) (σ : av) (ts : Array TypeId) (s x : AV) : (n9 P σ ts s x).isVal := by
 unfold n9
 simp only [aN]
 repeat' (first | trivial | split)
theorem yb {ov : Nat → Bool} (hov : ∀ g, ov g = true → lM P g) (hi : Inv ρ σ w) {ev : Operand → Option AV} {f : Operand → Value} {o : Oper} {r : HR} (hE : ER ρ ev f o.op) (h : eI P ov ev σ o.op = r) (hne : ∀ n, r ≠ .err n) :
  tV P ρ σ w r ((execOp f o).run P w) := by
 cases ho : o.op with
 | store t x y =>
  rw [ho] at h hE
  simp only [eI] at h
  cases hx : ev x with
  | none => rw [hx] at h; exact absurd h.symm (hne 11)
  | some a =>
  cases hy : ev y with
  | none => rw [hx, hy] at h; exact absurd h.symm (hne 11)
  | some v =>
  rw [hx, hy] at h
  dsimp only at h
  cases hs : sT P σ t a v with
  | none => rw [hs] at h; exact absurd h.symm (hne 10)
  | some σ' =>
   rw [hs] at h
   subst h
   obtain ⟨w', r, inv, st⟩ := w7 (P := P) hi hs (hE x (by simp [Op.operands]) a hx) (hE y (by simp [Op.operands]) v hy)
   have : (execOp f o).run P w = .ok .skip w' := by simp only [execOp, ho, Sem.run_bind, r, Result.andThen_ok, Sem.run_pure]
   rw [this]
   exact .skip inv st
 | mapUpdate t m k x =>
  rw [ho] at h hE
  simp only [eI] at h
  cases hm : ev m with
  | none => rw [hm] at h; exact absurd h.symm (hne 20)
  | some a =>
  cases hk : ev k with
  | none => rw [hm, hk] at h; exact absurd h.symm (hne 20)
  | some b =>
  cases hx : ev x with
  | none => rw [hm, hk, hx] at h; exact absurd h.symm (hne 20)
  | some v =>
  rw [hm, hk, hx] at h
  dsimp only at h
  cases hs : kq P σ t a b v with
  | none => rw [hs] at h; exact absurd h.symm (hne 19)
  | some σ' =>
   rw [hs] at h
   subst h
   obtain ⟨w', r, inv, st⟩ := pN (P := P) hi hs (hE m (by simp [Op.operands]) a hm) (hE k (by simp [Op.operands]) b hk) (hE x (by simp [Op.operands]) v hx)
   have : (execOp f o).run P w = .ok .skip w' := by simp only [execOp, ho, Sem.run_bind, r, Result.andThen_ok, Sem.run_pure]
   rw [this]
   exact .skip inv st
 | insert t m k x =>
  rw [ho] at h hE
  simp only [eI] at h
  cases hm : ev m with
  | none => rw [hm] at h; exact absurd h.symm (hne 20)
  | some a =>
  cases hk : ev k with
  | none => rw [hm, hk] at h; exact absurd h.symm (hne 20)
  | some b =>
  cases hx : ev x with
  | none => rw [hm, hk, hx] at h; exact absurd h.symm (hne 20)
  | some v =>
  rw [hm, hk, hx] at h
  dsimp only at h
  cases hs : kq P σ t a b v with
  | none => rw [hs] at h; exact absurd h.symm (hne 19)
  | some σ' =>
   rw [hs] at h
   subst h
   obtain ⟨w', r, inv, st⟩ := pN (P := P) hi hs (hE m (by simp [Op.operands]) a hm) (hE k (by simp [Op.operands]) b hk) (hE x (by simp [Op.operands]) v hx)
   have : (execOp f o).run P w = .ok .skip w' := by simp only [execOp, ho, Sem.run_bind, r, Result.andThen_ok, Sem.run_pure]
   rw [this]
   exact .skip inv st
 | call c =>
  rw [ho] at h hE
  simp only [eI] at h
  split at h
  ·rename_i g hcal
   split at h
   ·rename_i u1 u2 y args hg ha
    have hE' : ∀ x ∈ c.args.toList, ∀ v, ev x = some v → VR ρ v (f x) := fun x hx => hE x (by simp [Op.operands, Call.operands, hcal]; right; simpa using hx)
    have := Da (P := P) (w := w) hov hi h hne (hE g (by simp [Op.operands, Call.operands, hcal]) y hg) (xs := c.args.map f) (by simpa using eP ha hE')
    simpa only [execOp, ho, resolve, hcal] using this
   ·exact absurd h.symm (hne 12)
  ·rename_i hcal
   split at h
   ·rename_i u1 s x ha
    subst h
    have hE' : ∀ x ∈ c.args.toList, ∀ v, ev x = some v → VR ρ v (f x) := fun x hx => hE x (by simp [Op.operands, Call.operands, hcal]; simpa using hx)
    obtain ⟨ys, rs, e, h1, h2⟩ := (eP ha hE').cons_inv
    obtain ⟨yx, rs', rfl, h3, h4⟩ := h2.cons_inv
    have := h4.dD
    subst this
    have hargs : c.args.map f = #[ys, yx] := by rw [← Array.toList_inj]; simpa using e
    rw [aN] at hne
    rw [aN]
    split at hne
    ·rename_i hc
     rw [if_pos hc]
     have hv := y6 P σ c.argTypes s x
     cases hr : fl P σ c.argTypes s x with
     | val v σ' =>
      obtain ⟨z, w', ρ', g1, g2, g3, g4⟩ := vE (P := P) (ty := o.type) hi hr h1 h3
      have : (execOp f o).run P w = .ok (.value z) w' := by
       simp only [execOp, ho, resolve, hcal, hargs, Sem.run_bind, Sem.run_pure, Result.andThen_ok, invoke, builtin, g1]
      rw [this]
      exact .val g2 g3 g4
     | err n => exact absurd hr (hne n)
     | _ => rw [hr] at hv; exact hv.elim
    ·rename_i hc
     rw [if_neg hc]
     have hv := yd P σ c.argTypes s x
     cases hr : lX P σ c.argTypes s x with
     | val v σ' =>
      obtain ⟨z, w', ρ', g1, g2, g3, g4⟩ := ud (P := P) (ty := o.type) hi hr h1 h3
      have : (execOp f o).run P w = .ok (.value z) w' := by
       simp only [execOp, ho, resolve, hcal, hargs, Sem.run_bind, Sem.run_pure, Result.andThen_ok, invoke, builtin, g1]
      rw [this]
      exact .val g2 g3 g4
     | err n => exact absurd hr (hne n)
     | _ => rw [hr] at hv; exact hv.elim
   ·exact absurd h.symm (hne 13)
  ·rename_i hcal
   split at h
   ·rename_i u1 s x ha
    have hE' : ∀ x ∈ c.args.toList, ∀ v, ev x = some v → VR ρ v (f x) := fun x hx => hE x (by simp [Op.operands, Call.operands, hcal]; simpa using hx)
    obtain ⟨ys, rs, e, h1, h2⟩ := (eP ha hE').cons_inv
    obtain ⟨yx, rs', rfl, h3, h4⟩ := h2.cons_inv
    have := h4.dD
    subst this
    have hargs : c.args.map f = #[ys, yx] := by rw [← Array.toList_inj]; simpa using e
    cases hr : nq P σ c.argTypes s x with
    | none => rw [hr] at h; exact absurd h.symm (hne 17)
    | some σ' =>
     rw [hr] at h
     subst h
     obtain ⟨w', g1, g3, g4⟩ := vL (P := P) (ty := o.type) hi hr h1 h3
     have : (execOp f o).run P w = .ok (.value (.tuple #[])) w' := by
      simp only [execOp, ho, resolve, hcal, hargs, Sem.run_bind, Sem.run_pure, Result.andThen_ok, invoke, builtin, g1]
     rw [this]
     exact .val (by simp only [VR]; exact ⟨_, rfl, bX.nil⟩) g3 g4
   ·exact absurd h.symm (hne 18)
  ·rename_i hcal
   split at h
   ·rename_i u1 s x ha
    subst h
    have hE' : ∀ x ∈ c.args.toList, ∀ v, ev x = some v → VR ρ v (f x) := fun x hx => hE x (by simp [Op.operands, Call.operands, hcal]; simpa using hx)
    obtain ⟨ys, rs, e, h1, h2⟩ := (eP ha hE').cons_inv
    obtain ⟨yx, rs', rfl, h3, h4⟩ := h2.cons_inv
    have := h4.dD
    subst this
    have hargs : c.args.map f = #[ys, yx] := by rw [← Array.toList_inj]; simpa using e
    have hv := Di P σ c.argTypes s x
    cases hr : n9 P σ c.argTypes s x with
    | val v σ' =>
     obtain ⟨z, w', ρ', g1, g2, g3, g4⟩ := zY (P := P) (ty := o.type) hi hr h1 h3
     have : (execOp f o).run P w = .ok (.value z) w' := by
      simp only [execOp, ho, resolve, hcal, hargs, Sem.run_bind, Sem.run_pure, Result.andThen_ok, invoke, builtin, g1]
     rw [this]
     exact .val g2 g3 g4
    | err n => exact absurd hr (hne n)
    | _ => rw [hr] at hv; exact hv.elim
   ·exact absurd h.symm (hne 14)
  ·rename_i hcal
   split at h
   ·rename_i u1 x ha
    have hE' : ∀ x ∈ c.args.toList, ∀ v, ev x = some v → VR ρ v (f x) := fun x hx => hE x (by simp [Op.operands, Call.operands, hcal]; simpa using hx)
    obtain ⟨ys, rs, e, h1, h2⟩ := (eP ha hE').cons_inv
    have := h2.dD
    subst this
    have hargs : c.args.map f = #[ys] := by rw [← Array.toList_inj]; simpa using e
    cases hr : vC P σ c.argTypes x with
    | none => rw [hr] at h; exact absurd h.symm (hne 21)
    | some σ' =>
     rw [hr] at h
     subst h
     obtain ⟨w', g1, g3, g4⟩ := xu (P := P) (ty := o.type) hi hr h1
     have : (execOp f o).run P w = .ok (.value (.tuple #[])) w' := by
      simp only [execOp, ho, resolve, hcal, hargs, Sem.run_bind, Sem.run_pure, Result.andThen_ok, invoke, builtin, g1]
     rw [this]
     exact .val (by simp only [VR]; exact ⟨_, rfl, bX.nil⟩) g3 g4
   ·exact absurd h.symm (hne 22)
  ·rename_i hcal
   split at h
   ·rename_i u1 x ha
    have hE' : ∀ x ∈ c.args.toList, ∀ v, ev x = some v → VR ρ v (f x) := fun x hx => hE x (by simp [Op.operands, Call.operands, hcal]; simpa using hx)
    obtain ⟨ys, rs, e, h1, h2⟩ := (eP ha hE').cons_inv
    have := h2.dD
    subst this
    have hargs : c.args.map f = #[ys] := by rw [← Array.toList_inj]; simpa using e
    cases hr : Ad x with
    | none => rw [hr] at h; exact absurd h.symm (hne 27)
    | some v =>
     rw [hr] at h
     subst h
     obtain ⟨z, g1, g2⟩ := zQ (P := P) (w := w) (ts := c.argTypes) (ty := o.type) hr h1
     have : (execOp f o).run P w = .ok (.value z) w := by
      simp only [execOp, ho, resolve, hcal, hargs, Sem.run_bind, Sem.run_pure, Result.andThen_ok, invoke, builtin, g1]
     rw [this]
     exact .val g2 hi (dA.refl _ _ _)
   ·exact absurd h.symm (hne 28)
  ·rename_i hcal
   split at h
   ·rename_i u1 s x ha
    have hE' : ∀ x ∈ c.args.toList, ∀ v, ev x = some v → VR ρ v (f x) := fun x hx => hE x (by simp [Op.operands, Call.operands, hcal]; simpa using hx)
    obtain ⟨ys, rs, e, h1, h2⟩ := (eP ha hE').cons_inv
    obtain ⟨yx, rs', rfl, h3, h4⟩ := h2.cons_inv
    have := h4.dD
    subst this
    have hargs : c.args.map f = #[ys, yx] := by rw [← Array.toList_inj]; simpa using e
    cases hr : A0 P σ c.argTypes[0]? s x with
    | none => rw [hr] at h; exact absurd h.symm (hne 29)
    | some q =>
     obtain ⟨q, σ'⟩ := q
     rw [hr] at h
     subst h
     obtain ⟨z, w', g1, g2, g3, g4⟩ := zX (P := P) (ty := o.type) hi hr h1 h3
     have : (execOp f o).run P w = .ok (.value z) w' := by
      simp only [execOp, ho, resolve, hcal, hargs, Sem.run_bind, Sem.run_pure, Result.andThen_ok, invoke, builtin, g1]
     rw [this]
     exact .val g2 g3 g4
   ·exact absurd h.symm (hne 30)
  ·exact absurd h.symm (hne 15)
 | convert src dst x =>
  rw [ho] at h hE
  simp only [eI] at h
  cases hx : ev x with
  | none => rw [hx] at h; exact absurd h.symm (hne 23)
  | some a =>
   rw [hx] at h
   dsimp only at h
   cases hr : jD P σ src dst a with
   | val v σ' =>
    rw [hr] at h
    subst h
    obtain ⟨z, w', ρ', g1, g2, g3, g4⟩ := wW (P := P) hi hr (hE x (by simp [Op.operands]) a hx)
    have : (execOp f o).run P w = .ok (.value z) w' := by simp only [execOp, ho, Sem.run_bind, g1, Result.andThen_ok, Sem.run_pure]
    rw [this]
    exact .val g2 g3 g4
   | err n => rw [hr] at h; exact absurd h.symm (hne n)
   | skip σ' => exact absurd hr (oL P σ src dst a 0 [] σ').2.2
   | enter g args σ' => exact absurd hr (oL P σ src dst a g args σ').1
   | round g args σ' => exact absurd hr (oL P σ src dst a g args σ').2.1
   | gf q σ' => exact absurd hr (zN P σ src dst a q σ')
 | panic x =>
  rw [ho] at h hE
  simp only [eI] at h
  split at h
  ·rename_i t v hx
   subst h
   have hv := hE x (by simp [Op.operands]) _ hx
   have hv' := hv
   simp only [VR] at hv'
   obtain ⟨y, hf, _⟩ := hv'
   have : (execOp f o).run P w = .halt (.panic (f x)) w := by
    simp only [execOp, ho, hf, Instr.panic, Sem.run_bind]
    rfl
   rw [this]
   exact .gf hv
  ·exact absurd h.symm (hne 32)
 | _ => rw [ho] at h; exact absurd h.symm (hne 16)
end
inductive Ex where
 | normal
 | exit (id : Nat)
 | goto (l : Nat)
 | ret
 | gf (v : AV)
inductive DE where
 | mark (b : Pos)
 | call (f : Nat) (args ca : List AV)
inductive CR where
 | ok (e : Ex) (t : PT AV) (d : List DE) (σ : av)
 | err (n : Nat)
inductive KR where
 | ret (v : AV) (σ : av)
 | gf (v : AV) (σ : av)
 | err (n : Nat)
inductive Kind where
 | pure | read | alloc | gi
def isMap (P : Program) (t : Option TypeId) : Bool :=
 match t with
 | some t => match P.underlying t with | some (.map _ _) => true | _ => false
 | none => false
noncomputable def toStr (P : Program) (src dst : TypeId) : Bool :=
 match lI P src, lI P dst with
 | some (.slice _), some .string => true
 | some (.pointer _), some .unsafePointer => true
 | some .unsafePointer, some (.pointer _) => true
 | _, _ => false
noncomputable def ofStr (P : Program) (src dst : TypeId) : Bool :=
 match lI P src, lI P dst with
 | some .string, some (.slice _) => true
 | _, _ => false
noncomputable def kindOf (P : Program) : Op → Kind
 | .convert src dst _ => bif toStr P src dst then .read else (bif ofStr P src dst then .gi else .pure)
 | .load .. | .lookup .. => .read
 | .alloc .. | .box .. | .buildSlice .. | .makeSlice .. | .makeMap .. => .alloc
 | .store .. | .mapUpdate .. | .insert .. => .gi
 | .call c => match c.callee with
  | .builtin .len => bif isMap P c.argTypes[0]? then .read else .pure
  | .builtin .min | .builtin .max | .builtin .cap => .pure
  | _ => .gi
 | .defer _ | .panic _ => .gi
 | _ => .pure
structure ME where
 f : Nat
 args : List AV
 next : Nat
 l : List (Nat × bF)
 v : AV
 next' : Nat
 l' : List (Nat × bF)
structure Cx where
 gl : Nat
 ov : Nat → Bool
 fk : Nat → Bool
 Ch : Nat → List AV → Option AV
 laid : List (Nat × List AV)
 mem : List ME := []
 stop : Nat → List AV → av → Option Nat := fun _ _ _ => none
 Cf : Nat → List AV → av → Option AV := fun _ _ _ => none
noncomputable def aX (G : Cx) (t : PT AV) : Operand → Option AV
 | .tmp k => t.get (posOf k)
 | .const v => nY v
 | .global g => bif Nat.ble (Nat.succ g) G.gl then some (.ptr (posOf g) 0) else none
 | .func f => some (.func f [] [])
def pW : Op → Nat
 | .move .. => 1
 | .assign .. => 2
 | .pick .. => 3
 | .alloc .. => 4
 | .box .. => 5
 | .build .. => 6
 | .buildSlice .. => 7
 | .insert .. => 8
 | .load .. => 9
 | .store .. => 10
 | .ready .. => 11
 | .waits .. => 12
 | .nilCheck .. => 13
 | .binOp .. => 14
 | .unOp .. => 15
 | .convert .. => 16
 | .sliceToArrayPointer .. => 17
 | .makeInterface .. => 18
 | .makeFunc .. => 19
 | .makeMap .. => 20
 | .makeChan .. => 21
 | .makeSlice .. => 22
 | .slice .. => 23
 | .fieldAddr .. => 24
 | .field .. => 25
 | .indexAddr .. => 26
 | .index .. => 27
 | .lookup .. => 28
 | .mapUpdate .. => 29
 | .mapEntry .. => 30
 | .entryStore .. => 31
 | .range .. => 32
 | .next .. => 33
 | .entry .. => 34
 | .typeAssert .. => 35
 | .extract .. => 36
 | .call .. => 37
 | .go .. => 38
 | .defer .. => 39
 | .panic .. => 40
 | .send .. => 41
 | .recv .. => 42
 | .select .. => 43
noncomputable def cZ (P : Program) (G : Cx) (ev : Operand → Option AV) (σ : av) (op : Op) : HR :=
 match kindOf P op with
 | .pure => match cj P ev op with | some v => .val v σ | none => .err (Nat.add 1000 (pW op))
 | .read => match eV P ev σ op with | some v => .val v σ | none => .err (Nat.add 2000 (pW op))
 | .alloc => match ey P ev op with | some (ob, mk) => .val (mk.of σ.next) (σ.alloc ob) | none => .err (Nat.add 3000 (pW op))
 | .gi => eI P G.ov ev σ op
noncomputable def cK (t : PT AV) (n : Nat) (dst : Option Nat) (v : AV) : Option (PT AV) :=
 match dst with
 | none => some t
 | some k => bif Nat.ble (Nat.succ k) n then some (t.put (some v) (posOf k)) else none
def unit : AV := .tuple []
noncomputable def bj (ops : Array Oper) (t : PT AV) (o : Oper) : Option Bool :=
 match o.guard with
 | none => some true
 | some (j, want) => match (ops[j]?).bind (·.dst) with
  | some k => match t.get (posOf k) with
   | some (.bool b) => some (bif b then want else (bif want then false else true))
   | some (.tuple _) => some false
   | _ => none
  | none => some false
abbrev fP := Code → PT AV → Nat → List DE → Option Pos → av → CR
noncomputable def vH (n : Nat) (ks : List Nat) (vs : List AV) (t : PT AV) : Option (PT AV) :=
 List.rec (motive := fun _ => List AV → PT AV → Option (PT AV)) (fun vs t => List.rec (motive := fun _ => Option (PT AV)) (some t) (fun _ _ _ => none) vs)
  (fun k _ ih vs t => List.rec (motive := fun _ => Option (PT AV)) none (fun v r _ => match cK t n (some k) v with | some t' => ih r t' | none => none) vs) ks vs t
def qc : Ex → Option Code
 | .normal => none
 | .ret => some .ret
 | .exit id => some (.exit id)
 | .goto g => some (.goto g)
 | .gf _ => none
def xY : Ex → Bool
 | .gf _ => true
 | _ => false
def pD : Ex → LoopState
 | .normal => .ready
 | _ => .done
def vT : Ex → Bool
 | .normal => true
 | _ => false
noncomputable def ma (ih : fP) (l : Pos) (args : List AV) (σ : av) : KR :=
 match σ.m.get l with
 | some (.loop _ _ tmps n params assign body _) =>
  match vH n params args tmps with
  | some t => match ih assign t n [] (some l) σ with
   | .ok .normal t [] σ₁ => match σ₁.m.get l with
    | some (.loop .ready p tmps n' params assign body' df) =>
     match ih body t n [] (some l) (σ₁.setObj l (.loop .busy p tmps n' params assign body' df)) with
     | .ok e _ [] σ₂ => bif xY e then .err 67 else match σ₂.m.get l with
      | some (.loop _ _ tmps n params assign body df) => .ret (.bool (vT e)) (σ₂.setObj l (.loop (pD e) (qc e) tmps n params assign body df))
      | _ => .err 61
     | .err k => .err k
     | _ => .err 62
    | _ => .err 63
   | .err k => .err k
   | _ => .err 64
  | none => .err 65
 | _ => .err 66
noncomputable def mB (n : Nat) (args : List AV) : Option (PT AV) :=
 List.rec (motive := fun _ => Nat → PT AV → Option (PT AV)) (fun _ t => some t) (fun v _ ih k t => match cK t n (some k) v with | some t' => ih (Nat.succ k) t' | none => none) args 0 .leaf
noncomputable def ed (P : Program) (t : PT AV) (σ : av) : ResultVar → Option AV
 | .tmp k => t.get (posOf k)
 | .cell k ty => match t.get (posOf k) with
  | some (.ptr b off) => match σ.m.get b with
   | some (.row cells _ _) => match da P ty with
    | some (some n) => bif Nat.ble (off + n) (b0 cells) then some (.agg (takeN (cT cells off) n)) else none
    | some none => nth cells off
    | none => none
   | _ => none
  | _ => none
noncomputable def dq (P : Program) (fn : Func) (t : PT AV) (σ : av) : Option AV :=
 match bK (ed P t σ) fn.results.toList with
 | some [v] => some v
 | some vs => some (.tuple vs)
 | none => none
inductive Md where
 | ret
 | gf (v : AV)
 | D9 (v : AV)
inductive SR where
 | ok (e : Ex) (t : PT AV) (d : List DE) (md : Md) (σ : av)
 | err (n : Nat)
def isRec (o : Oper) : Bool :=
 match o.op with
 | .call c => match c.callee with
  | .builtin .recover => true
  | _ => false
 | _ => false
def EI : Md → AV
 | .gf v => v
 | _ => .nilIface
def HA : Md → Md
 | .gf v => .D9 v
 | m => m
def rH : Md → Md
 | .D9 _ => .ret
 | m => m
noncomputable def FM (P : Program) (G : Cx) (ops : Array Oper) (n : Nat) (o : Oper) (t : PT AV) (md : Md) (σ : av) (k : PT AV → Md → av → SR) : SR :=
 match bj ops t o with
 | some true => bif isRec o then (match cK t n o.dst (EI md) with | some t' => k t' (HA md) σ | none => .err 80) else
  match cZ P G (aX G t) σ o.op with
  | .val v σ' => (match cK t n o.dst v with | some t' => k t' md σ' | none => .err 80)
  | .skip σ' => (match cK t n o.dst unit with | some t' => k t' md σ' | none => .err 80)
  | _ => .err 201
 | some false => match cK t n o.dst unit with | some t' => k t' md σ | none => .err 84
 | none => .err 85
noncomputable def Em (P : Program) (G : Cx) (ops : Array Oper) (n : Nat) (l : List Oper) : PT AV → Md → av → SR :=
 List.rec (motive := fun _ => PT AV → Md → av → SR) (fun t md σ => .ok .normal t [] md σ)
  (fun o _ k t md σ => FM P G ops n o t md σ k) l
noncomputable def uX (md : Md) (r : CR) : SR :=
 match r with
 | .ok e t d σ => .ok e t d md σ
 | .err n => .err n
def Dr (ops : List Oper) : Bool := ops.any isRec
noncomputable def GX (r : SR) (k : PT AV → Md → av → SR) : SR :=
 match r with
 | .ok .normal t [] md σ => k t md σ
 | .ok .normal _ _ _ _ => .err 203
 | r => r
noncomputable def wG (P : Program) (G : Cx) (ih : fP) (fuel : Nat) : Code → PT AV → Nat → Md → av → SR :=
 Nat.rec (motive := fun _ => Code → PT AV → Nat → Md → av → SR) (fun _ _ _ _ _ => .err 202)
  (fun _ rc c t n md σ => match c with
   | .seq a b => GX (rc a t n md σ) (fun t md σ => rc b t n md σ)
   | .region id ops draw => bif draw then uX md (ih (.region id ops draw) t n [] none σ) else bif Dr ops.toList then Em P G ops n ops.toList t md σ else uX md (ih (.region id ops draw) t n [] none σ)
   | c => uX md (ih c t n [] none σ)) fuel
noncomputable def Gy (P : Program) (fn : Func) (r : SR) : Option (Md × av) :=
 match r with
 | .ok .normal t [] md σ => match dq P fn t σ with | some _ => some (rH md, σ) | none => none
 | .ok .ret t [] md σ => match dq P fn t σ with | some _ => some (rH md, σ) | none => none
 | _ => none
noncomputable def rL (P : Program) (G : Cx) (ih : fP) (f : Nat) (args : List AV) (md : Md) (σ : av) : Option (Md × av) :=
 match P.funcs[f]? with
 | some fn => match fn.body, mB fn.ntmps args with
  | some c, some t => Gy P fn (wG P G ih 30 c t fn.ntmps md σ)
  | _, _ => none
 | none => none
noncomputable def oH (P : Program) (G : Cx) (ih : fP) (d : List DE) : Md → av → Option (Md × av) :=
 List.rec (motive := fun _ => Md → av → Option (Md × av)) (fun md σ => some (md, σ))
  (fun e _ k md σ => match e with
   | .mark b => match σ.m.get b with
    | some .mark => k md (σ.setObj b .dead)
    | _ => none
   | .call f args ca => bif rk P f then (match rL P G ih f (eJ args ca) md σ with
    | some (md', σ') => k md' σ'
    | none => none) else none) d
noncomputable def ua (P : Program) (G : Cx) (ih : fP) (fn : Func) (md : Md) (t : PT AV) (d : List DE) (σ : av) : KR :=
 match oH P G ih d md σ with
 | some (.ret, σ) => match dq P fn t σ with | some v => .ret v σ | none => .err 70
 | some (.gf v, σ) => .gf v σ
 | _ => .err 71
noncomputable def iv (P : Program) (G : Cx) (ih : fP) (f : Nat) (args : List AV) (σ : av) : KR :=
 match P.funcs[f]? with
 | some fn => match fn.body, mB fn.ntmps args with
  | some c, some t => match ih c t fn.ntmps [] none σ with
   | .ok .normal t d σ => ua P G ih fn .ret t d σ
   | .ok .ret t d σ => ua P G ih fn .ret t d σ
   | .ok (.gf v) t d σ => ua P G ih fn (.gf v) t d σ
   | .err k => .err k
   | _ => .err 72
  | _, _ => .err 73
 | none => .err 74
noncomputable def oB (r : KR) : KR :=
 match r with
 | .gf _ _ => .err 69
 | r => r
def jm : AV → Bool
 | .bool _ | .int _ _ | .str _ | .nilPtr | .aq | .fx | .nilFunc | .nilIface => true
 | _ => false
noncomputable def dz (l : List AV) : Bool := List.rec (motive := fun _ => Bool) true (fun v _ r => bif jm v then r else false) l
noncomputable def vM (x y : AV) : Bool :=
 match x, y with
 | .bool a, .bool b => bif a then b else (bif b then false else true)
 | .int j a, .int k b => pe j k && bk a b
 | .str a, .str b => qq a b
 | .nilPtr, .nilPtr => true
 | .aq, .aq => true
 | .fx, .fx => true
 | .nilFunc, .nilFunc => true
 | .nilIface, .nilIface => true
 | _, _ => false
noncomputable def gz (xs ys : List AV) : Bool :=
 List.rec (motive := fun _ => List AV → Bool) (fun ys => List.rec (motive := fun _ => Bool) true (fun _ _ _ => false) ys)
  (fun x _ ih ys => List.rec (motive := fun _ => Bool) false (fun y r _ => bif vM x y then ih r else false) ys) xs ys
noncomputable def z8 (n : Nat) (v : AV) : List AV := Nat.rec (motive := fun _ => List AV) [] (fun _ l => v :: l) n
noncomputable def dL (σ : av) (b : Pos) (o : bF) (vb : Pos) (o' : bF) : av := { next := σ.next, m := (PT.leaf.put (some o) b).put (some o') vb }
noncomputable def ns (vb : Pos) (vc : List AV) (ve e sz : Nat) (r : KR) (ok : nk → Nat → Bool) : Option (Nat × List AV) :=
 match r with
 | .ret (.slice b1 o1 n1 c1) σ1 =>
  match σ1.m.get b1, σ1.m.get vb with
  | some (.row cs1 e1 false), some (.row vc1 ve1 false) =>
   bif ok c1 n1 && ((bif gq b1 vb then false else true) && (gz vc vc1 && (Nat.beq ve ve1 && (Nat.beq e e1 && (Nat.ble 1 n1 && (Nat.ble (o1 + n1 * sz) (b0 cs1) && dz (takeN (cT cs1 o1) (n1 * sz)))))))) then
    some (n1, takeN (cT cs1 o1) (n1 * sz))
   else none
  | _, _ => none
 | _ => none
def y8 (sz : Nat) (c : nk) (_ : Nat) : Bool :=
 match c with
 | .upto s => Nat.beq s sz
 | _ => false
def wv (sz : Nat) (c : nk) (n : Nat) : Bool :=
 match c with
 | .least a s => Nat.beq s sz && Nat.ble n a
 | _ => false
noncomputable def Ac (P : Program) (G : Cx) (ih : fP) (f : Nat) (args : List AV) (σ : av) : KR :=
 match args with
 | [.slice b off n (.upto sz), i, .slice vb voff m (.known mc)] =>
  match σ.m.get b, σ.m.get vb with
  | some (.row cells e false), some (.row vc ve false) =>
   bif (bif gq b vb then false else true) && (Nat.ble 1 n && (Nat.beq m 1 && (jm i && (dz vc && Nat.ble (off + n * sz) (b0 cells))))) then
    match ns vb vc ve e sz (iv P G ih f [.slice b off n (.known n), i, .slice vb voff m (.known mc)] (dL σ b (.row cells e false) vb (.row vc ve false))) (y8 sz),
     ns vb vc ve e sz (iv P G ih f [.slice b off n (.least (Nat.succ n) sz), i, .slice vb voff m (.known mc)] (dL σ b (.row (eJ (takeN cells (off + n * sz)) (z8 sz .any)) e false) vb (.row vc ve false))) (wv sz) with
    | some (n1, r1), some (n2, r2) => bif Nat.beq n1 n2 && gz r1 r2 then .ret (.slice σ.next 0 n1 (.upto sz)) ((σ.drop b).alloc (.row r1 e false)) else .err 75
    | _, _ => .err 76
   else .err 77
  | _, _ => .err 78
 | _ => iv P G ih f args σ
noncomputable def hX (gl : Nat) (σ : av) (l : List (Nat × List AV)) : Bool :=
 List.rec (motive := fun _ => Bool) true (fun x _ r => bif Nat.ble (Nat.succ x.1) gl then (match σ.m.get x.1 with
  | some (.row cells _ true) => bif dz x.2 then (bif gz cells x.2 then r else false) else false
  | _ => false) else false) l
noncomputable def dn (x y : AV) : Bool :=
 match x, y with
 | .agg xs, .agg ys => beqL xs ys
 | x, y => ld x y
where
 beqP (p q : Pos) : Bool := Nat.beq p q
 beqC (c d : nk) : Bool :=
  match c, d with
  | .known a, .known b => Nat.beq a b
  | .upto a, .upto b => Nat.beq a b
  | _, _ => false
 ld (x y : AV) : Bool :=
  match x, y with
  | .bool a, .bool b => bif a then b else (bif b then false else true)
  | .int j a, .int k b => pe j k && bk a b
  | .str a, .str b => qq a b
  | .nilPtr, .nilPtr => true
  | .tok a, .tok b => Nat.beq a b
  | .ptr b o, .ptr b' o' => beqP b b' && Nat.beq o o'
  | .aq, .aq => true
  | .slice b o l c, .slice b' o' l' c' => beqP b b' && Nat.beq o o' && Nat.beq l l' && beqC c c'
  | .fx, .fx => true
  | .map b, .map b' => beqP b b'
  | .nilFunc, .nilFunc => true
  | .nilIface, .nilIface => true
  | .func f [] [], .func g [] [] => Nat.beq f g
  | .func f [] [.ptr b o], .func g [] [.ptr b' o'] => Nat.beq f g && beqP b b' && Nat.beq o o'
  | _, _ => false
 beqL (xs ys : List AV) : Bool :=
  List.rec (motive := fun _ => List AV → Bool) (fun ys => List.rec (motive := fun _ => Bool) true (fun _ _ _ => false) ys)
   (fun x _ ih ys => List.rec (motive := fun _ => Bool) false (fun y r _ => bif ld x y then ih r else false) ys) xs ys
noncomputable def DT (xs ys : List AV) : Bool :=
 List.rec (motive := fun _ => List AV → Bool) (fun ys => List.rec (motive := fun _ => Bool) true (fun _ _ _ => false) ys)
  (fun x _ ih ys => List.rec (motive := fun _ => Bool) false (fun y r _ => bif dn x y then ih r else false) ys) xs ys
noncomputable def zT (xs ys : List dV) : Bool :=
 List.rec (motive := fun _ => List dV → Bool) (fun ys => List.rec (motive := fun _ => Bool) true (fun _ _ _ => false) ys)
  (fun x _ ih ys => List.rec (motive := fun _ => Bool) false (fun y r _ => bif dn x.key y.key then (bif dn x.val y.val then (bif Nat.beq x.born y.born then ih r else false) else false) else false) ys) xs ys
noncomputable def Al (x y : bF) : Bool :=
 match x, y with
 | .row c e false, .row c' e' false => bif Nat.beq e e' then dn.beqL c c' else false
 | .own c e, .own c' e' => bif Nat.beq e e' then dn.beqL c c' else false
 | .map es k, .map es' k' => bif Nat.beq k k' then zT es es' else false
 | .iter s p, .iter s' p' => bif Nat.beq p p' then qq s s' else false
 | .mark, .mark => true
 | .dead, .dead => true
 | _, _ => false
noncomputable def F1 (l : List (Nat × bF)) (σ : av) : Bool :=
 List.rec (motive := fun _ => Bool) true (fun x _ r => match σ.m.get x.1 with | some o => bif Al o x.2 then r else false | none => false) l
noncomputable def D3 (gl : Nat) (laid : List (Nat × List AV)) (e : ME) (f : Nat) (args : List AV) (σ : av) : Bool :=
 bif Nat.beq e.f f then (bif DT args e.args then (bif Nat.beq σ.next e.next then (bif hX gl σ laid then F1 e.l σ else false) else false) else false) else false
noncomputable def rT (gl : Nat) (laid : List (Nat × List AV)) (mem : List ME) (f : Nat) (args : List AV) (σ : av) : Option ME :=
 List.rec (motive := fun _ => Option ME) none (fun e _ r => bif D3 gl laid e f args σ then some e else r) mem
noncomputable def vx (l : List (Nat × bF)) (m : PT bF) : PT bF := List.rec (motive := fun _ => PT bF) m (fun x _ r => r.put none x.1) l
noncomputable def rF (l : List (Nat × bF)) (m : PT bF) : PT bF := List.rec (motive := fun _ => PT bF) m (fun x _ r => r.put (some x.2) x.1) l
noncomputable def xg (σ : av) (e : ME) : av := { next := e.next', m := rF e.l' (vx e.l σ.m) }
noncomputable def zH (l : List (Nat × List AV)) (E : Nat → TypeId) : PT bF := l.foldl (fun m x => m.put (some (.row x.2 (E x.1) true)) (posOf x.1)) .leaf
noncomputable def om (laid : List (Nat × List AV)) (E : Nat → TypeId) (e : ME) : av := { next := e.next, m := rF e.l (zH laid E) }
noncomputable def H2 (gl : Nat) (laid : List (Nat × List AV)) (e : ME) : Bool :=
 Nat.ble gl e.next && (Nat.ble e.next e.next' && ((laid.all fun x => Nat.blt x.1 gl) && ((e.l.all fun x => Nat.ble gl x.1 && (Nat.blt x.1 e.next && !x.2.ro)) && (e.l'.all fun x => Nat.ble gl x.1 && (Nat.blt x.1 e.next' && (!x.2.ro && (Nat.ble e.next x.1 || e.l.any fun y => Nat.beq y.1 x.1)))))))
def atEnd (args : List AV) : Bool :=
 match args with
 | [.slice _ _ n _, .int _ (.ofNat j), _] => Nat.beq j n
 | _ => false
noncomputable def mM (P : Program) (G : Cx) (ih : fP) (f : Nat) (args : List AV) (σ : av) : KR := bif atEnd args then iv P G ih f args σ else Ac P G ih f args σ
noncomputable def iD (P : Program) (G : Cx) (ih : fP) (f : Nat) (args : List AV) (σ : av) : KR :=
 match G.Cf f args σ with
 | some v => bif jm v then .ret v σ else .err 78
 | none => match G.Ch f args with
 | some v => bif dz args && (jm v && hX G.gl σ G.laid) then .ret v σ else .err 79
 | none => match rT G.gl G.laid G.mem f args σ with
  | some e => .ret e.v (xg σ e)
  | none => match G.stop f args σ with
   | some c => .err c
   | none => bif G.fk f then oB (mM P G ih f args σ) else iv P G ih f args σ
noncomputable def iT (P : Program) (G : Cx) (ih : fP) (r : HR) : KR :=
 match r with
 | .val v σ => .ret v σ
 | .skip σ => .ret unit σ
 | .enter f args σ => iD P G ih f args σ
 | .round l args σ => ma ih l args σ
 | .gf v σ => .gf v σ
 | .err e => .err e
noncomputable def EW (pn : Bool) (v : AV) (t : PT AV) (σ : av) : CR := bif pn then .ok (.gf v) t [] σ else .err 69
noncomputable def gg (P : Program) (G : Cx) (ih : fP) (pn : Bool) (ops : Array Oper) (n : Nat) (o : Oper) (t : PT AV) (σ : av) (k : PT AV → av → CR) : CR :=
 match bj ops t o with
 | some true => match iT P G ih (cZ P G (aX G t) σ o.op) with
  | .ret v σ' => match cK t n o.dst v with | some t' => k t' σ' | none => .err 80
  | .gf v σ' => EW pn v t σ'
  | .err e => .err e
 | some false => match cK t n o.dst unit with | some t' => k t' σ | none => .err 84
 | none => .err 85
noncomputable def pP (P : Program) (G : Cx) (ih : fP) (ops : Array Oper) (n : Nat) (d : List DE) (l : List Oper) : PT AV → av → CR :=
 List.rec (motive := fun _ => PT AV → av → CR) (fun t σ => .ok .normal t d σ)
  (fun o _ k t σ => gg P G ih true ops n o t σ k) l
def nU (A : Array Nat) (i j : Nat) : Bool := (A.getD i 0).testBit j
def waits (ops : Array Oper) (i j : Nat) : Bool := ((ops[i]?).map fun o => o.after.any fun e => Region.binds .any e && e.on == j).getD false
def yU : Kind → Bool
 | .gi => true
 | _ => false
def qn : Kind → Bool
 | .read | .alloc => true
 | _ => false
noncomputable def gp (P : Program) (ops : Array Oper) (i : Nat) : Bool := match (ops[i]?).map fun o => kindOf P o.op with | some k => yU k | none => false
noncomputable def eC (P : Program) (ops : Array Oper) (i : Nat) : Bool := match (ops[i]?).map fun o => kindOf P o.op with | some k => qn k | none => false
def slotsOf (ops : Array Oper) (o : Oper) : List Nat :=
 (o.op.operands.toList.filterMap fun | .tmp k => some k | _ => none) ++ (match o.guard with | some (j, _) => ((ops[j]?).bind (·.dst)).toList | none => [])
def dQ (ops : Array Oper) (i : Nat) : Option Nat := (ops[i]?).bind (·.dst)
def bit (i : Nat) : Nat := Nat.shiftLeft 1 i
def hasB (m i : Nat) : Bool := Nat.beq (Nat.land (Nat.shiftRight m i) 1) 1
def tY (m k : Nat) : Bool := Nat.beq (Nat.land m k) m
noncomputable def kB (l : List Nat) : Nat := List.rec (motive := fun _ => Nat) 0 (fun i _ r => Nat.lor (bit i) r) l
structure Row where
 w : Nat
 h : Bool
 k : Bool
 d : Option Nat
 dm : Nat
 s : Nat
noncomputable def tM (P : Program) (ops : Array Oper) (o : Oper) : Row :=
 { w := kB (o.after.toList.filterMap fun e => if Region.binds .any e = true then some e.on else none), h := yU (kindOf P o.op), k := qn (kindOf P o.op), d := o.dst, dm := kB o.dst.toList, s := kB (slotsOf ops o) }
structure RA where
 r : Row
 a : Nat
noncomputable def tw (L : List RA) : Nat → Nat :=
 List.rec (motive := fun _ => Nat → Nat) (fun _ => 0) (fun x _ ih w => Nat.lor (Bool.rec (motive := fun _ => Nat) 0 x.a (Nat.beq (Nat.land w 1) 1)) (ih (Nat.shiftRight w 1))) L
noncomputable def DQ (rows : List Row) : List RA → List RA :=
 List.rec (motive := fun _ => List RA → List RA) (fun L => L) (fun r _ ih L => ih (eJ L [⟨r, Nat.lor r.w (tw L r.w)⟩])) rows
noncomputable def fF (P : Program) (ops : Array Oper) : List RA := DQ (ub (tM P ops) ops.toList) []
noncomputable def allI {α : Type} (f : Nat → α → Bool) (l : List α) : Nat → Bool := List.rec (motive := fun _ => Nat → Bool) (fun _ => true) (fun x _ ih i => Bool.rec (motive := fun _ => Bool) false (ih (Nat.succ i)) (f i x)) l
noncomputable def FD {α : Type} (f : Nat → α → Bool) (l : List α) : Nat → Option Nat := List.rec (motive := fun _ => Nat → Option Nat) (fun _ => none) (fun x _ ih i => Bool.rec (motive := fun _ => Option Nat) (ih (Nat.succ i)) (some i) (f i x)) l
noncomputable def Hj {α : Type} (f : Nat → α → Bool) (l : List α) : Nat → List Nat := List.rec (motive := fun _ => Nat → List Nat) (fun _ => []) (fun x _ ih i => Bool.rec (motive := fun _ => List Nat) (ih (Nat.succ i)) (i :: ih (Nat.succ i)) (f i x)) l
noncomputable def w0 (i : Nat) (x : RA) (j : Nat) (y : RA) : Bool :=
 Option.rec (motive := fun _ => Bool) true (fun k => bif (bif hasB x.r.dm k then Nat.beq j i else true) then (bif hasB x.r.s k then (bif hasB x.a j then true else (bif x.r.k then false else (bif Nat.beq j i then true else hasB y.a i))) else true) else false) y.r.d
noncomputable def D7 (i : Nat) (x : RA) (j : Nat) (y : RA) : Bool := Bool.rec (motive := fun _ => Bool) (w0 i x j y) true (Nat.beq (Nat.land (Nat.lor x.r.dm x.r.s) y.r.dm) 0)
noncomputable def Cm (L : List RA) (n : Nat) : Bool :=
 allI (fun i x => bif Nat.blt x.r.w (bit n) then (bif (bif x.r.k then x.r.d.isSome else true) then (bif tY x.a (Nat.lor x.r.w (tw L x.r.w)) then allI (D7 i x) L 0 else false) else false) else false) L 0
noncomputable def G7 (L : List RA) (fuel : Nat) : Nat → List (Nat × List Nat) :=
 Nat.rec (motive := fun _ => Nat → List (Nat × List Nat)) (fun _ => [])
  (fun _ ih D => Option.rec (motive := fun _ => List (Nat × List Nat))
   (Option.rec (motive := fun _ => List (Nat × List Nat)) [] (fun i => (i, Option.rec (motive := fun _ => List Nat) [] (fun x => Hj (fun j y => bif hasB D j then (bif y.r.k then (bif hasB x.a j then false else true) else false) else false) L 0) (nth L i)) :: ih (Nat.lor D (bit i)))
    (FD (fun i x => Bool.rec (motive := fun _ => Bool) (tY x.r.w D) false (hasB D i)) L 0))
   (fun i => (i, []) :: ih (Nat.lor D (bit i))) (FD (fun i x => Bool.rec (motive := fun _ => Bool) (Bool.rec (motive := fun _ => Bool) (tY x.r.w D) false x.r.h) false (hasB D i)) L 0)) fuel
noncomputable def C0 (L : List RA) (i : Nat) (rc : List Nat) (D : Nat) (x : RA) : Bool :=
 bif hasB D i then false else (bif tY x.r.w D then (bif x.r.h then allI (fun j y => bif hasB D j then (bif hasB x.a j then true else (bif y.r.k then hasB (kB rc) j else true)) else (bif Nat.beq j i then true else (bif tY y.r.w D then false else true))) L 0 else true) else false)
noncomputable def zb (L : List RA) (n : Nat) (p : List (Nat × List Nat)) : Nat → Bool :=
 List.rec (motive := fun _ => Nat → Bool) (fun D => Nat.beq D (Nat.sub (bit n) 1))
  (fun p _ ih D => Option.rec (motive := fun _ => Bool) false (fun x => bif C0 L p.1 p.2 D x then ih (Nat.lor D (bit p.1)) else false) (nth L p.1)) p
noncomputable def qg (P : Program) (ops : Array Oper) : List (Nat × List Nat) := G7 (fF P ops) ops.size 0
noncomputable def oS (P : Program) (ops : Array Oper) : Bool := bif Cm (fF P ops) ops.size then zb (fF P ops) ops.size (qg P ops) 0 else false
noncomputable def gj (P : Program) (G : Cx) (ops : Array Oper) (t : PT AV) (σ : av) (i : Nat) : Bool :=
 match ops[i]? with
 | some o => match bj ops t o with
  | some true => match o.dst with
   | some k => match t.get (posOf k) with
    | some v => match kindOf P o.op with
     | .read => match eV P (aX G t) σ o.op with | some u => dn u v | none => false
     | .alloc => match ey P (aX G t) o.op, v with
      | some (.row cs e false, .ptr), .ptr b 0 => match σ.m.get b with | some (.row cs' e' false) => Nat.beq e e' && dn.beqL cs cs' | _ => false
      | some (.row cs e false, .slice n c), .slice b 0 n' (.known c') => match σ.m.get b with | some (.row cs' e' false) => Nat.beq e e' && dn.beqL cs cs' && Nat.beq n n' && Nat.beq c c' | _ => false
      | _, _ => false
     | _ => false
    | none => false
   | none => false
  | some false => true
  | none => false
 | none => false
noncomputable def cH (P : Program) (G : Cx) (ops : Array Oper) (t : PT AV) (σ : av) (l : List Nat) : Bool :=
 List.rec (motive := fun _ => Bool) true (fun i _ r => bif gj P G ops t σ i then r else false) l
noncomputable def gO (P : Program) (G : Cx) (ih : fP) (ops : Array Oper) (n : Nat) (d : List DE) (l : List (Nat × List Nat)) : PT AV → av → CR :=
 List.rec (motive := fun _ => PT AV → av → CR) (fun t σ => .ok .normal t d σ)
  (fun p _ k t σ => match ops[p.1]? with
   | some o => gg P G ih false ops n o t σ (fun t' σ' => bif cH P G ops t' σ' p.2 then k t' σ' else .err 86)
   | none => .err 87) l
noncomputable def qU (P : Program) (G : Cx) (ih : fP) (ops : Array Oper) (n : Nat) (d : List DE) (t : PT AV) (σ : av) : CR :=
 bif oS P ops then gO P G ih ops n d (qg P ops) t σ else .err 88
noncomputable def uz (c : Option AV) (x y : CR) : CR :=
 match c with
 | some (.bool true) => x
 | some (.bool false) => y
 | _ => .err 90
noncomputable def tS (r : CR) (k : PT AV → List DE → av → CR) : CR :=
 match r with
 | .ok .normal t d σ => k t d σ
 | r => r
noncomputable def p7 (id : Nat) (r : CR) : CR :=
 match r with
 | .ok (.exit j) t d σ => bif Nat.beq j id then .ok .normal t d σ else .ok (.exit j) t d σ
 | r => r
noncomputable def yD (r : CR) : CR :=
 match r with
 | .ok (.goto _) _ _ _ => .err 98
 | r => r
noncomputable def vZ (ro : Option Pos) (d : List DE) (σ : av) : Option (Pos × av × List DE) :=
 match ro with
 | none => some (σ.next, σ.alloc .mark, DE.mark σ.next :: d)
 | some l => match σ.m.get l with
  | some (.loop _ _ _ _ _ _ _ df) => some (df, σ, d)
  | _ => none
noncomputable def Dy (ih : fP) (l : Pos) (t : PT AV) (n : Nat) (d : List DE) (ro : Option Pos) (σ : av) : CR :=
 match σ.m.get l with
 | some (.loop st p tmps n' ps as bd df) =>
  match st with
  | .busy => .err 91
  | _ => match p with
   | none => .ok .normal t d (σ.setObj l (.loop .exhausted none tmps n' ps as bd df))
   | some c => ih c t n d ro (σ.setObj l (.loop .exhausted (some c) tmps n' ps as bd df))
 | _ => .err 92
noncomputable def vU (P : Program) (G : Cx) (ih : fP) (g : Operand) (ps : Array Tmp) (assign body : Code) (t : PT AV) (n : Nat) (d : List DE) (ro : Option Pos) (σ : av) : CR :=
 match vZ ro d σ with
 | some (df, σ₁, d₁) =>
  match aX G t g with
  | some (.func f fi ca) => bif rk P f then
    match iD P G ih f (eJ fi (.yield σ₁.next :: ca)) (σ₁.alloc (.loop .ready none t n ps.toList assign body df)) with
    | .ret _ σ₃ => Dy ih σ₁.next t n d₁ ro σ₃
    | .gf _ _ => .err 89
    | .err e => .err e
   else .err 93
  | _ => .err 94
 | none => .err 95
def AI (o : Oper) : Bool :=
 match o.op with
 | .defer _ => true
 | _ => false
def kF (ops : List Oper) : Bool := ops.any AI
noncomputable def zI (P : Program) (G : Cx) (t : PT AV) (o : Op) : Option DE :=
 match o with
 | .defer c => match c.callee with
  | .value f => match aX G t f, pZ (aX G t) c.args.toList with
   | some (.func g fi ca), some args => some (.call g (eJ fi args) ca)
   | _, _ => none
  | _ => none
 | _ => none
noncomputable def F6 (P : Program) (G : Cx) (ops : Array Oper) (n : Nat) (o : Oper) (d : List DE) (t : PT AV) (σ : av) (k : List DE → PT AV → av → CR) : CR :=
 match bj ops t o with
 | some true => bif AI o then (match zI P G t o.op with
   | some e => match cK t n o.dst unit with | some t' => k (e :: d) t' σ | none => .err 80
   | none => .err 97) else
  match cZ P G (aX G t) σ o.op with
  | .val v σ' => (match cK t n o.dst v with | some t' => k d t' σ' | none => .err 80)
  | .skip σ' => (match cK t n o.dst unit with | some t' => k d t' σ' | none => .err 80)
  | .err e => .err e
  | _ => .err 204
 | some false => match cK t n o.dst unit with | some t' => k d t' σ | none => .err 84
 | none => .err 85
noncomputable def FZ (P : Program) (G : Cx) (ops : Array Oper) (n : Nat) (l : List Oper) : List DE → PT AV → av → CR :=
 List.rec (motive := fun _ => List DE → PT AV → av → CR) (fun d t σ => .ok .normal t d σ)
  (fun o _ k d t σ => F6 P G ops n o d t σ k) l
noncomputable def zf (P : Program) (G : Cx) (ops : Array Oper) (n : Nat) (ro : Option Pos) (d : List DE) (t : PT AV) (σ : av) : CR :=
 match ro with
 | none => FZ P G ops n ops.toList d t σ
 | some _ => .err 96
noncomputable def tX (d : List DE) (r : CR) : CR :=
 match r with
 | .ok (.gf v) t _ σ => .ok (.gf v) t d σ
 | r => r
noncomputable def AA (P : Program) (G : Cx) (ih : fP) (c : Code) (t : PT AV) (n : Nat) (d : List DE) (ro : Option Pos) (σ : av) : CR :=
 match c with
 | .skip | .label _ => .ok .normal t d σ
 | .region _ ops draw => bif draw then qU P G ih ops n d t σ else bif kF ops.toList then zf P G ops n ro d t σ else tX d (pP P G ih ops n d ops.toList t σ)
 | .seq a b => tS (ih a t n d ro σ) (fun t d σ => ih b t n d ro σ)
 | .cond c a b => uz (aX G t c) (ih a t n d ro σ) (ih b t n d ro σ)
 | .block id b => p7 id (ih b t n d ro σ)
 | .scope b => yD (ih b t n d ro σ)
 | .loop b => tS (ih b t n d ro σ) (fun t d σ => ih (.loop b) t n d ro σ)
 | .exit id => .ok (.exit id) t d σ
 | .ret => .ok .ret t d σ
 | .rangeFunc g ps assign body => vU P G ih g ps assign body t n d ro σ
 | _ => .err 99
noncomputable def dx (P : Program) (G : Cx) (fuel : Nat) : fP := Nat.rec (motive := fun _ => fP) (fun _ _ _ _ _ _ => .err 100) (fun _ ih => AA P G ih) fuel
noncomputable def rY (P : Program) (G : Cx) (fuel : Nat) (f : Nat) (args : List AV) (σ : av) : KR := iD P G (dx P G fuel) f args σ
def gJ : Option Nat → Fence
 | none => Fence.wide
 | some l => Fence.wide.inRound l
theorem fO (rl : Option Nat) (f : FuncId) : (gJ rl).fn f := by cases rl <;> trivial
theorem yI (rl : Option Nat) : (gJ rl).depth = none := by cases rl <;> rfl
theorem ss (rl : Option Nat) : (gJ rl).round = rl := by cases rl <;> rfl
theorem ny (rl : Option Nat) (m : Nat) : (gJ rl).depth.isSome = true → 1 ≤ m := by rw [yI]; intro h; cases h
theorem oK {m : Nat} {P : Program} {f : FuncId} {args : Array Value} {w : World} {R : Ending → World → Prop} (rl : Option Nat) (h : CallsIn Fence.wide m P f args w R) : CallsIn (gJ rl) m P f args w R := by
 cases rl with
 | none => exact h
 | some l => exact h.inRound l
theorem ET (rl : Option Nat) (l : Nat) : (gJ rl).inRound l = gJ (some l) := by cases rl <;> rfl
def DR (ρ : bN) : List DE → List Deferred → Prop
 | [], ds => ds = []
 | .mark b :: d, ds => ∃ l r, ρ b = some l ∧ ds = { target := .collected l.cF, args := #[] } :: r ∧ DR ρ d r
 | .call f args ca :: d, ds => ∃ (xs cs : Array Value) (r : List Deferred), ds = { target := .fn (.func f) cs, args := xs } :: r ∧ bX ρ args xs.toList ∧ bX ρ ca cs.toList ∧ DR ρ d r
theorem DR.mono {ρ ρ' : bN} (h : ρ.le ρ') : ∀ {d : List DE} {ds : List Deferred}, DR ρ d ds → DR ρ' d ds
 | [], ds, hd => hd
 | .mark b :: d, ds, hd => let ⟨l, r, h1, h2, h3⟩ := hd; ⟨l, r, h _ _ h1, h2, DR.mono h h3⟩
 | .call f args ca :: d, ds, hd => let ⟨xs, cs, r, h1, h2, h3, h4⟩ := hd; ⟨xs, cs, r, h1, bX.mono h _ _ h2, bX.mono h _ _ h3, DR.mono h h4⟩
def EY : Ex → Exit
 | .normal => .normal
 | .exit i => .exit i
 | .goto i => .goto i
 | .ret => .ret
 | .gf _ => .normal
def Hr (ρ : bN) : Ex → Exit → Prop
 | .gf v, E => ∃ x, E = .panic [{ v := x, recovered := false }] ∧ VR ρ v x
 | .normal, E => E = .normal
 | .exit i, E => E = .exit i
 | .goto i, E => E = .goto i
 | .ret, E => E = .ret
def Qx (Q : Exit → Act → World → Prop) (ρ : bN) (e : Ex) (a : Act) (w : World) : Prop := ∀ E, Hr ρ e E → Q E a w
def G1 (ρ : bN) : KR → Ending → Prop
 | .ret v _, e => ∃ x, e = .returned x ∧ VR ρ v x
 | .gf v _, e => ∃ x, e = .panicked [{ v := x, recovered := false }] ∧ VR ρ v x
 | .err _, _ => False
def KR.heap : KR → av
 | .ret _ σ => σ
 | .gf _ σ => σ
 | .err _ => ⟨0, .leaf⟩
def RO (ρ : bN) : Option Pos → Option Nat → Prop
 | none, none => True
 | some b, some l => ∃ loc, ρ b = some loc ∧ loc.cF = l
 | _, _ => False
theorem RO.mono {ρ ρ' : bN} (h : ρ.le ρ') : ∀ {ro : Option Pos} {rl : Option Nat}, RO ρ ro rl → RO ρ' ro rl
 | none, none, _ => trivial
 | some _, some _, ⟨loc, h1, h2⟩ => ⟨loc, h _ _ h1, h2⟩
def GR (ρ : bN) (G : Cx) : Prop := ∀ g, g < G.gl → ∃ c, ρ (posOf g) = some ⟨g, 0, c⟩
theorem GR.mono {ρ ρ' : bN} {G : Cx} (h : ρ.le ρ') (hg : GR ρ G) : GR ρ' G := fun g hlt => let ⟨c, hc⟩ := hg g hlt; ⟨c, h _ _ hc⟩
structure gN (w w' : World) : Prop where
 os : w'.os = w.os
 out : w'.output = w.output
 tape : w'.tape = w.tape
 size : w.heap.size ≤ w'.heap.size
 same : ∀ r : Nat, r < w.heap.size → w'.heap[r]? = w.heap[r]?
def iI (w : World) (x : Nat × List AV) : Prop := ∃ c e fr, w.heap[x.1]? = some (.cells c e fr) ∧ x.2.length ≤ c.size ∧ ∀ (i : Nat) (v : AV), x.2[i]? = some v → ∃ y, c[i]? = some y ∧ VR (fun _ => none) v y
def AT (P : Program) (gl : Nat) (laid : List (Nat × List AV)) (f : Nat) (args : List AV) (v : AV) : Prop :=
 ∀ (w : World) (xs : Array Value), gl ≤ w.heap.size → Dp w → (∀ x ∈ laid, iI w x) → bX (fun _ => none) args xs.toList → Calls P f xs w fun e w' => ∃ x, e = .returned x ∧ VR (fun _ => none) v x ∧ gN w w'
def HZ (P : Program) (gl : Nat) (laid : List (Nat × List AV)) (e : ME) : Prop :=
 H2 gl laid e = true ∧ ∀ (E : Nat → TypeId) (ρ : bN) (w : World) (xs : Array Value) (rl : Option Nat) (m : Nat) (R : Ending → World → Prop), Inv ρ (om laid E e) w → (∀ g, g < gl → ∃ c, ρ (posOf g) = some ⟨g, 0, c⟩) → bX ρ e.args xs.toList →
  (∀ (ρ' : bN) (σr : av) (w' : World) (x : Value), (∀ y ∈ e.l', σr.m.get y.1 = some y.2) → σr.next = e.next' → Inv ρ' σr w' → dA ρ (om laid E e) w ρ' σr w' → VR ρ' e.v x → R (.returned x) w') →
  CallsIn (gJ rl) m P e.f xs w R
structure xQ (P : Program) (G : Cx) : Prop where
 ov : ∀ g, G.ov g = true → lM P g
 Ch : ∀ f args v, G.Ch f args = some v → AT P G.gl G.laid f args v
 mem : ∀ e ∈ G.mem, HZ P G.gl G.laid e
 Cf : ∀ f args σ v, G.Cf f args σ = some v → ∀ (ρ : bN) (w : World) (xs : Array Value), Inv ρ σ w → bX ρ args xs.toList → Calls P f xs w fun e w' => ∃ x ρ', e = .returned x ∧ VR ρ' v x ∧ Inv ρ' σ w' ∧ dA ρ σ w ρ' σ w'
structure Sound (P : Program) (G : Cx) (ih : fP) : Prop where
 cx : xQ P G
 run : ∀ (c : Code) (t : PT AV) (n : Nat) (d : List DE) (ro : Option Pos) (σ : av) (e : Ex) (t' : PT AV) (d' : List DE) (σ' : av), ih c t n d ro σ = .ok e t' d' σ' →
  ∀ (ρ : bN) (w : World) (a : Act) (rl : Option Nat) (m : Nat) (Q : Exit → Act → World → Prop), Inv ρ σ w → GR ρ G → TR ρ t n a.tmps → DR ρ d a.defers → RO ρ ro rl →
   (∀ (ρ' : bN) (w' : World) (a' : Act), Inv ρ' σ' w' → dA ρ σ w ρ' σ' w' → TR ρ' t' n a'.tmps → DR ρ' d' a'.defers → Qx Q ρ' e a' w') → c.wpIn (gJ rl) m P Q a w
section
variable {P : Program} {G : Cx} {ρ : bN} {σ : av} {w : World}
theorem TR.set {t : PT AV} {n k : Nat} {tmps : Array Value} {v : AV} {x : Value} (h : TR ρ t n tmps) (hk : k < n) (hv : VR ρ v x) : TR ρ (t.put (some v) (posOf k)) n (tmps.setIfInBounds k x) := by
 refine ⟨by simpa using h.1, fun j u hu => ?_⟩
 by_cases e : j = k
 ·subst e
  rw [PT.cD] at hu; cases hu
  refine ⟨hk, ?_⟩
  have : j < tmps.size := by rw [h.1]; exact hk
  simpa [Array.getD_eq_getD_getElem?, this] using hv
 ·rw [PT.cy _ _ _ _ (fun h' => e (nF h'))] at hu
  obtain ⟨h1, h2⟩ := h.2 j u hu
  refine ⟨h1, ?_⟩
  have : (tmps.setIfInBounds k x).getD j undef = tmps.getD j undef := by
   simp only [Array.getD_eq_getD_getElem?, Array.getElem?_setIfInBounds]
   rw [if_neg (fun h' => e h'.symm)]
  rw [this]; exact h2
theorem nw {t t' : PT AV} {n k : Nat} {v : AV} (h : cK t n (some k) v = some t') : k < n ∧ t' = t.put (some v) (posOf k) := by
 unfold cK at h
 simp only [aN] at h
 split at h
 ·rename_i hk
  cases h
  exact ⟨Nat.le_of_ble_eq_true hk, rfl⟩
 ·cases h
theorem TR.put {t t' : PT AV} {n : Nat} {a : Act} {dst : Option Tmp} {v : AV} {x : Value} (h : TR ρ t n a.tmps) (hp : cK t n dst v = some t') (hv : VR ρ v x) : TR ρ t' n (a.put dst x).tmps := by
 cases dst with
 | none => cases hp; exact h
 | some k =>
  obtain ⟨hk, rfl⟩ := nw hp
  exact h.set hk hv
theorem put_defers (a : Act) (dst : Option Tmp) (x : Value) : (a.put dst x).defers = a.defers := by cases dst <;> rfl
theorem iQ : VR ρ unit undef := by simp only [unit, VR]; exact ⟨_, rfl, bX.nil⟩
theorem fc {t : PT AV} {n : Nat} {a : Act} {x : Operand} {v : AV} (hg : GR ρ G) (ht : TR ρ t n a.tmps) (h : aX G t x = some v) : VR ρ v (a.eval x) := by
 cases x with
 | tmp k => exact (ht.2 k v h).2
 | const c => exact mz h
 | global g =>
  simp only [aX, aN] at h
  split at h
  ·rename_i hlt
   cases h
   obtain ⟨c, hc⟩ := hg g (Nat.le_of_ble_eq_true hlt)
   simp only [VR]
   exact ⟨_, hc, by simp [Act.eval]⟩
  ·cases h
 | func f =>
  cases h
  simp only [VR]
  exact ⟨_, _, rfl, bX.nil, bX.nil⟩
theorem ur {t : PT AV} {n : Nat} {a : Act} (op : Op) (hg : GR ρ G) (ht : TR ρ t n a.tmps) : ER ρ (aX G t) a.eval op := fun _ _ _ hv => fc hg ht hv
theorem ug {ops : Array Oper} {t : PT AV} {o : Oper} {b : Bool} {tmps : Array Value} (h : bj ops t o = some b)
  (hs : ∀ j want k, o.guard = some (j, want) → (ops[j]?).bind (·.dst) = some k → ∀ v, t.get (posOf k) = some v → k < tmps.size ∧ VR ρ v (tmps.getD k undef)) :
  Region.wanted o (yielded ops tmps) = b := by
 unfold bj at h
 unfold Region.wanted
 cases hg : o.guard with
 | none => rw [hg] at h; cases h; rfl
 | some jw =>
  obtain ⟨j, want⟩ := jw
  rw [hg] at h
  dsimp only at h ⊢
  cases hk : (ops[j]?).bind (·.dst) with
  | none =>
   rw [hk] at h; cases h
   simp [yielded, hk]
  | some k =>
   rw [hk] at h
   dsimp only at h
   cases hv : t.get (posOf k) with
   | none => rw [hv] at h; cases h
   | some v =>
    rw [hv] at h
    obtain ⟨hlt, hr⟩ := hs j want k hg hk v hv
    have hget : tmps[k]? = some (tmps.getD k undef) := by
     rw [Array.getD_eq_getD_getElem?, Array.getElem?_eq_getElem hlt]; rfl
    generalize tmps.getD k undef = x at hr hget
    cases v with
    | bool c =>
     simp only [VR] at hr
     subst hr
     simp only [yielded, hk, Option.bind_some, hget]
     cases h
     cases c <;> cases want <;> rfl
    | tuple cs =>
     simp only [VR] at hr
     obtain ⟨y, rfl, _⟩ := hr
     cases h
     simp [yielded, hk, hget]
    | _ => cases h
theorem lQ {ops : Array Oper} {t : PT AV} {o : Oper} {b : Bool} {n : Nat} {tmps : Array Value} (h : bj ops t o = some b) (ht : TR ρ t n tmps) : Region.wanted o (yielded ops tmps) = b :=
 ug h fun _ _ k _ _ v hv => ⟨by rw [ht.1]; exact (ht.2 k v hv).1, (ht.2 k v hv).2⟩
theorem pA {n : Nat} : ∀ (ks : List Nat) (vs : List AV) (t t' : PT AV) (tmps : Array Value) (xs : List Value), vH n ks vs t = some t' → TR ρ t n tmps → bX ρ vs xs →
  ks.length = xs.length ∧ TR ρ t' n ((ks.zip xs).foldl (fun tmps (t, a) => tmps.setIfInBounds t a) tmps)
 | [], [], t, t', tmps, xs, h, ht, hv => by
  rw [hv.dD]
  have h' : some t = some t' := h
  cases h'
  exact ⟨rfl, ht⟩
 | [], _ :: _, _, _, _, _, h, _, _ => by have h' : (none : Option (PT AV)) = some _ := h; cases h'
 | _ :: _, [], _, _, _, _, h, _, _ => by have h' : (none : Option (PT AV)) = some _ := h; cases h'
 | k :: ks, v :: vs, t, t', tmps, xs, h, ht, hv => by
  obtain ⟨x, r, rfl, h1, h2⟩ := hv.cons_inv
  have h' : (match cK t n (some k) v with | some t' => vH n ks vs t' | none => none) = some t' := h
  cases hp : cK t n (some k) v with
  | none => rw [hp] at h'; cases h'
  | some t₁ =>
   rw [hp] at h'
   obtain ⟨hk, rfl⟩ := nw hp
   obtain ⟨g1, g2⟩ := pA ks vs _ t' (tmps.setIfInBounds k x) r h' (ht.set hk h1) h2
   exact ⟨by simp [g1], g2⟩
theorem rW {n : Nat} {args : List AV} {xs : Array Value} {t : PT AV} (h : mB n args = some t) (hv : bX ρ args xs.toList) : TR ρ t n (xs ++ Array.replicate (n - xs.size) undef) := by
 have key : ∀ (args : List AV) (ys : List Value) (k : Nat) (t t' : PT AV), (List.rec (motive := fun _ => Nat → PT AV → Option (PT AV)) (fun _ t => some t) (fun v _ ih k t => match cK t n (some k) v with | some t' => ih (Nat.succ k) t' | none => none) args : Nat → PT AV → Option (PT AV)) k t = some t' →
   bX ρ args ys → (∀ j v, t.get (posOf j) = some v → j < k ∧ j < n) →
   (∀ j v, t'.get (posOf j) = some v → j < n ∧ ((j < k ∧ t.get (posOf j) = some v) ∨ ∃ y, k ≤ j ∧ ys[j - k]? = some y ∧ VR ρ v y)) ∧ (args = [] ∨ k + args.length ≤ n) := by
  intro args
  induction args with
  | nil =>
   intro ys k t t' h hv ht
   have h' : some t = some t' := h
   cases h'
   exact ⟨fun j v hj => ⟨(ht j v hj).2, .inl ⟨(ht j v hj).1, hj⟩⟩, .inl rfl⟩
  | cons v args ih =>
   intro ys k t t' h hv ht
   obtain ⟨x, r, rfl, h1, h2⟩ := hv.cons_inv
   dsimp only at h
   cases hp : cK t n (some k) v with
   | none => rw [hp] at h; cases h
   | some t₁ =>
    rw [hp] at h
    obtain ⟨hk, rfl⟩ := nw hp
    obtain ⟨g1, g2⟩ := ih r (k + 1) _ t' h h2 (fun j u hj => by
     by_cases e : j = k
     ·subst e; exact ⟨by omega, hk⟩
     ·rw [PT.cy _ _ _ _ (fun h' => e (nF h'))] at hj
      have := ht j u hj
      exact ⟨by omega, this.2⟩)
    refine ⟨fun j u hj => ?_, .inr ?_⟩
    ·obtain ⟨q1, q2⟩ := g1 j u hj
     refine ⟨q1, ?_⟩
     rcases q2 with ⟨hlt, hg⟩ | ⟨y, hle, hy, hr⟩
     ·by_cases e : j = k
      ·subst e
       rw [PT.cD] at hg; cases hg
       exact .inr ⟨x, Nat.le_refl _, by simp, h1⟩
      ·rw [PT.cy _ _ _ _ (fun h' => e (nF h'))] at hg
       exact .inl ⟨by omega, hg⟩
     ·refine .inr ⟨y, by omega, ?_, hr⟩
      have : j - k = (j - (k + 1)) + 1 := by omega
      rw [this]; simpa using hy
    ·rcases g2 with rfl | g2
     ·simp; omega
     ·simp; omega
 obtain ⟨g1, g2⟩ := key args xs.toList 0 .leaf t h hv (fun j v hj => by rw [PT.jt] at hj; cases hj)
 have hlen := hv.length
 have hle : xs.size ≤ n := by
  rcases g2 with rfl | g2
  ·simp at hlen; rw [hlen]; simp
  ·simp at hlen; omega
 refine ⟨by simp; omega, fun j v hj => ?_⟩
 obtain ⟨q1, q2⟩ := g1 j v hj
 refine ⟨q1, ?_⟩
 rcases q2 with ⟨hlt, _⟩ | ⟨y, _, hy, hr⟩
 ·omega
 ·rw [Nat.sub_zero] at hy
  have hjx : j < xs.size := by simpa using (List.getElem?_eq_some_iff.1 hy).1
  have : (xs ++ Array.replicate (n - xs.size) undef).getD j undef = y := by
   rw [Array.getD_eq_getD_getElem?, Array.getElem?_append_left hjx, ← Array.getElem?_toList, hy]; rfl
  rw [this]; exact hr
def CZ (tmps : Array Value) : ResultVar → Sem Value
 | .tmp t => pure (tmps.getD t undef)
 | .cell a t => do loadVar t (← asAddr (tmps.getD a undef))
theorem oy (fn : Func) (tmps : Array Value) : results fn tmps = (fn.results.mapM (CZ tmps) >>= fun vs => pure (if h : vs.size = 1 then vs[0] else .tuple vs)) := rfl
theorem vR (hi : Inv ρ σ w) {t : PT AV} {n : Nat} {tmps : Array Value} (ht : TR ρ t n tmps) {r : ResultVar} {v : AV} (h : ed P t σ r = some v) :
  ∃ x, (CZ tmps r).run P w = .ok x w ∧ VR ρ v x := by
 cases r with
 | tmp k => exact ⟨_, rfl, (ht.2 k v h).2⟩
 | cell k ty =>
  simp only [ed] at h
  cases hk : t.get (posOf k) with
  | none => rw [hk] at h; cases h
  | some u =>
   rw [hk] at h
   have hvx := (ht.2 k u hk).2
   cases u with
   | ptr b off =>
    dsimp only at h
    cases hg : σ.m.get b with
    | none => rw [hg] at h; cases h
    | some ob =>
     rw [hg] at h
     cases ob with
     | row cells e ro =>
      simp only [VR] at hvx
      obtain ⟨l, hl, hfx⟩ := hvx
      obtain ⟨y, hy, hr⟩ := kL (P := P) hi hg hl h
      refine ⟨y, ?_, hr⟩
      simp [CZ, hfx, asAddr, hy]
     | _ => cases h
   | _ => cases h
theorem mE (hi : Inv ρ σ w) {t : PT AV} {n : Nat} {tmps : Array Value} (ht : TR ρ t n tmps) : ∀ {rs : List ResultVar} {vs : List AV}, bK (ed P t σ) rs = some vs →
  ∃ xs : List Value, (rs.mapM (CZ tmps) : Sem (List Value)).run P w = .ok xs w ∧ bX ρ vs xs
 | [], vs, h => by rw [fu] at h; cases h; exact ⟨[], by simp, bX.nil⟩
 | r :: rs, vs, h => by
  obtain ⟨y, r', h1, h2, rfl⟩ := eW h
  obtain ⟨x, hx, hv⟩ := vR (P := P) hi ht h1
  obtain ⟨xs, hxs, hvs⟩ := mE hi ht h2
  refine ⟨x :: xs, ?_, bX.cons hv hvs⟩
  simp only [List.mapM_cons, Sem.run_bind, hx, Result.andThen_ok, hxs, Sem.run_pure]
theorem oe (hi : Inv ρ σ w) {fn : Func} {t : PT AV} {n : Nat} {tmps : Array Value} (ht : TR ρ t n tmps) {v : AV} (h : dq P fn t σ = some v) :
  ∃ x, (results fn tmps).run P w = .ok x w ∧ VR ρ v x := by
 unfold dq at h
 cases ha : bK (ed P t σ) fn.results.toList with
 | none => rw [ha] at h; cases h
 | some vs =>
  rw [ha] at h
  obtain ⟨xs, hx, hv⟩ := mE (P := P) hi ht ha
  have hm : (fn.results.mapM (CZ tmps) : Sem (Array Value)).run P w = .ok xs.toArray w := by
   rw [Array.mapM_eq_mapM_toList]
   simp only [Sem.run_map, hx, Result.andThen_ok]
  cases vs with
  | nil =>
   cases h
   have := hv.dD
   subst this
   refine ⟨.tuple #[], by rw [oy, Sem.run_bind, hm]; rfl, by simp only [VR]; exact ⟨_, rfl, bX.nil⟩⟩
  | cons u us =>
   obtain ⟨x, r, rfl, h1, h2⟩ := hv.cons_inv
   cases us with
   | nil =>
    cases h
    have := h2.dD
    subst this
    exact ⟨x, by rw [oy, Sem.run_bind, hm]; rfl, h1⟩
   | cons u' us =>
    cases h
    obtain ⟨x', r', rfl, h3, h4⟩ := h2.cons_inv
    refine ⟨.tuple (x :: x' :: r').toArray, by rw [oy, Sem.run_bind, hm]; rfl, by simp only [VR]; exact ⟨_, rfl, by simpa using hv⟩⟩
end
theorem ry {p q : Pos} (h : dn.beqP p q = true) : p = q := Nat.eq_of_beq_eq_true h
theorem Fe {c d : nk} (h : dn.beqC c d = true) : c = d := by
  unfold dn.beqC at h
  split at h
  · rw [Nat.eq_of_beq_eq_true h]
  · rw [Nat.eq_of_beq_eq_true h]
  · cases h
theorem AS {x y : AV} (h : dn.ld x y = true) : x = y := by
  unfold dn.ld at h
  split at h
  · rw [jI] at h; rw [eq_of_beq h]
  · rw [Bool.and_eq_true, dX, decide_eq_true_eq] at h; rw [mO h.1, h.2]
  · rw [qd, decide_eq_true_eq] at h; rw [h]
  · rfl
  · rw [Nat.eq_of_beq_eq_true h]
  · rw [Bool.and_eq_true] at h; rw [ry h.1, Nat.eq_of_beq_eq_true h.2]
  · rfl
  · simp only [Bool.and_eq_true] at h; rw [ry h.1.1.1, Nat.eq_of_beq_eq_true h.1.1.2, Nat.eq_of_beq_eq_true h.1.2, Fe h.2]
  · rfl
  · rw [ry h]
  · rfl
  · rfl
  · rw [Nat.eq_of_beq_eq_true h]
  · simp only [Bool.and_eq_true] at h; rw [Nat.eq_of_beq_eq_true h.1.1, ry h.1.2, Nat.eq_of_beq_eq_true h.2]
  · cases h
theorem nD : ∀ {xs ys : List AV}, dn.beqL xs ys = true → xs = ys
  | [], [], _ => rfl
  | [], _ :: _, h => by cases h
  | _ :: _, [], h => by cases h
  | x :: xs, y :: ys, h => by
    have h' : (bif dn.ld x y then dn.beqL xs ys else false) = true := h
    rw [aN] at h'
    split at h'
    · rename_i hb; rw [AS hb, nD h']
    · cases h'
theorem rE {x y : AV} (h : dn x y = true) : x = y := by
  unfold dn at h
  split at h
  · rw [nD h]
  · exact AS h
theorem wM : ∀ {xs ys : List AV}, DT xs ys = true → xs = ys
  | [], [], _ => rfl
  | [], _ :: _, h => by cases h
  | _ :: _, [], h => by cases h
  | x :: xs, y :: ys, h => by
    have h' : (bif dn x y then DT xs ys else false) = true := h
    rw [aN] at h'
    split at h'
    · rename_i hb; rw [rE hb, wM h']
    · cases h'
theorem uM : ∀ {xs ys : List dV}, zT xs ys = true → xs = ys
  | [], [], _ => rfl
  | [], _ :: _, h => by cases h
  | _ :: _, [], h => by cases h
  | x :: xs, y :: ys, h => by
    have h' : (bif dn x.key y.key then (bif dn x.val y.val then (bif Nat.beq x.born y.born then zT xs ys else false) else false) else false) = true := h
    rw [aN] at h'
    split at h'
    · rename_i h1
      rw [aN] at h'
      split at h'
      · rename_i h2
        rw [aN] at h'
        split at h'
        · rename_i h3
          have e1 := rE h1
          have e2 := rE h2
          have e3 := Nat.eq_of_beq_eq_true h3
          rw [uM h']
          cases x; cases y
          simp only at e1 e2 e3
          subst e1; subst e2; subst e3
          rfl
        · cases h'
      · cases h'
    · cases h'
theorem CY {x y : bF} (h : Al x y = true) : x = y := by
  unfold Al at h
  split at h
  · rw [aN] at h
    split at h
    · rename_i he; rw [Nat.eq_of_beq_eq_true he, nD h]
    · cases h
  · rw [aN] at h
    split at h
    · rename_i he; rw [Nat.eq_of_beq_eq_true he, nD h]
    · cases h
  · rw [aN] at h
    split at h
    · rename_i he; rw [Nat.eq_of_beq_eq_true he, uM h]
    · cases h
  · rw [aN] at h
    split at h
    · rename_i he
      rw [qd, decide_eq_true_eq] at h
      rw [Nat.eq_of_beq_eq_true he, h]
    · cases h
  · rfl
  · rfl
  · cases h
theorem xp : ∀ {l : List (Nat × bF)} {σ : av}, F1 l σ = true → ∀ x ∈ l, σ.m.get x.1 = some x.2
  | [], σ, _, x, hx => by cases hx
  | y :: l, σ, h, x, hx => by
    have h' : (match σ.m.get y.1 with | some o => bif Al o y.2 then F1 l σ else false | none => false) = true := h
    split at h'
    · rename_i o ho
      rw [aN] at h'
      split at h'
      · rename_i he
        rcases List.mem_cons.1 hx with rfl | hx
        · rw [ho, CY he]
        · exact xp h' x hx
      · cases h'
    · cases h'
theorem mS : ∀ {l : List (Nat × bF)} {m : PT bF} {b : Nat} {o : bF}, (rF l m).get b = some o → (∃ x ∈ l, x.1 = b ∧ x.2 = o) ∨ ((∀ x ∈ l, x.1 ≠ b) ∧ m.get b = some o)
  | [], m, b, o, h => .inr ⟨fun x hx => (by cases hx), h⟩
  | y :: l, m, b, o, h => by
    have h' : ((rF l m).put (some y.2) y.1).get b = some o := h
    rw [PT.gC] at h'
    split at h'
    · rename_i e
      cases h'
      exact .inl ⟨y, List.mem_cons_self, e.symm, rfl⟩
    · rename_i hne
      rcases mS h' with ⟨x, h1, h2⟩ | ⟨h1, h2⟩
      · exact .inl ⟨x, List.mem_cons_of_mem _ h1, h2⟩
      · refine .inr ⟨fun x hx => ?_, h2⟩
        rcases List.mem_cons.1 hx with rfl | hx
        · exact fun e => hne e.symm
        · exact h1 x hx
theorem qL : ∀ {l : List (Nat × bF)} {m : PT bF} {b : Nat} {o : bF}, (vx l m).get b = some o → (∀ x ∈ l, x.1 ≠ b) ∧ m.get b = some o
  | [], m, b, o, h => ⟨fun x hx => (by cases hx), h⟩
  | y :: l, m, b, o, h => by
    have h' : ((vx l m).put none y.1).get b = some o := h
    rw [PT.gC] at h'
    split at h'
    · cases h'
    · rename_i hne
      obtain ⟨h1, h2⟩ := qL h'
      refine ⟨fun x hx => ?_, h2⟩
      rcases List.mem_cons.1 hx with rfl | hx
      · exact fun e => hne e.symm
      · exact h1 x hx
theorem tI (E : Nat → TypeId) {l : List (Nat × List AV)} {b : Nat} {o : bF} (h : (zH l E).get b = some o) : ∃ x ∈ l, x.1 = b ∧ o = .row x.2 (E x.1) true := by
  have key : ∀ (l : List (Nat × List AV)) (m : PT bF), (l.foldl (fun m x => m.put (some (.row x.2 (E x.1) true)) (posOf x.1)) m).get b = some o → (∃ x ∈ l, x.1 = b ∧ o = .row x.2 (E x.1) true) ∨ m.get b = some o := by
    intro l
    induction l with
    | nil => intro m h; exact .inr h
    | cons x l ih =>
      intro m h
      rcases ih _ h with ⟨y, h1, h2⟩ | h
      · exact .inl ⟨y, List.mem_cons_of_mem _ h1, h2⟩
      · rw [PT.gC] at h
        split at h
        · rename_i e
          cases h
          exact .inl ⟨x, List.mem_cons_self, e.symm, rfl⟩
        · exact .inr h
  rcases key l _ h with h | h
  · exact h
  · rw [PT.jt] at h; cases h
theorem uV {laid : List (Nat × List AV)} {E : Nat → TypeId} {e : ME} {b : Nat} {o : bF} (h : (om laid E e).m.get b = some o) : (∃ x ∈ e.l, x.1 = b ∧ x.2 = o) ∨ ∃ x ∈ laid, x.1 = b ∧ o = .row x.2 (E x.1) true := by
  rcases mS h with h | ⟨_, h⟩
  · exact .inl h
  · exact .inr (tI E h)
section
variable {P : Program} {G : Cx} {ρ : bN} {σ : av} {w : World}
theorem Inv.putObj (hi : Inv ρ σ w) {b : Pos} {l : Loc} {o o' : bF} {x : Obj} (hb : σ.m.get b = some o) (hl : ρ b = some l) (hro : o.ro = false) (hro' : o'.ro = false) (ho : fh ρ l o' x) :
    Inv ρ (σ.setObj b o') (w.putObj l.cF x) ∧ dA ρ σ w ρ (σ.setObj b o') (w.putObj l.cF x) := by
  have hlt := hi.cF b l hl
  exact hi.change hb hl hro hro' (World.putObj_heap_same hlt) ho (fun r hr => World.putObj_heap_other hr) (by simp) rfl rfl rfl
theorem lE (hov : ∀ g, G.ov g = true → lM P g) {ev : Operand → Option AV} {f : Operand → Value} {o : Oper} {r : HR} (hi : Inv ρ σ w) (hE : ER ρ ev f o.op) (h : cZ P G ev σ o.op = r) (hne : ∀ n, r ≠ .err n) : tV P ρ σ w r ((execOp f o).run P w) := by
  subst h
  unfold cZ at hne ⊢
  cases hk : kindOf P o.op with
  | pure =>
    rw [hk] at hne
    dsimp only at hne ⊢
    cases hp : cj P ev o.op with
    | none => rw [hp] at hne; exact absurd rfl (hne (Nat.add 1000 (pW o.op)))
    | some v =>
      obtain ⟨x, hx, hv⟩ := tC (P := P) (w := w) hE hp
      rw [hx]
      exact .val hv hi (dA.refl ρ σ w)
  | read =>
    rw [hk] at hne
    dsimp only at hne ⊢
    cases hp : eV P ev σ o.op with
    | none => rw [hp] at hne; exact absurd rfl (hne (Nat.add 2000 (pW o.op)))
    | some v =>
      obtain ⟨x, hx, hv⟩ := sk (P := P) hi hE hp
      rw [hx]
      exact .val hv hi (dA.refl ρ σ w)
  | alloc =>
    rw [hk] at hne
    dsimp only at hne ⊢
    cases hp : ey P ev o.op with
    | none => rw [hp] at hne; exact absurd rfl (hne (Nat.add 3000 (pW o.op)))
    | some p =>
      obtain ⟨ob, mk⟩ := p
      obtain ⟨x, ob', n, hx, hro, hob, hv⟩ := qG (P := P) (w := w) hE hp
      obtain ⟨inv, st⟩ := hi.alloc (l := ⟨w.heap.size, 0, n⟩) rfl hob
      rw [hx]
      exact .val (hv _ _ (bN.bI _ _ _)) inv st
  | gi =>
    rw [hk] at hne
    exact yb hov hi hE rfl hne
theorem jW {ev : Operand → Option AV} {o : Oper} (hne : ∀ n, cZ P G ev σ o.op ≠ .err n) (c : Call) : o.op ≠ .defer c := by
  intro e
  rw [e] at hne
  exact hne 16 rfl
def xK (ρ : bN) : Md → FrameMode → Prop
  | .ret, u => u = .returning
  | .gf v, u => ∃ x, u = .panicking [{ v := x, recovered := false }] ∧ VR ρ v x
  | .D9 v, u => ∃ x, u = .panicking [{ v := x, recovered := true }] ∧ VR ρ v x
theorem xK.mono {ρ ρ' : bN} (h : ρ.le ρ') : ∀ {md : Md} {u : FrameMode}, xK ρ md u → xK ρ' md u
  | .ret, _, h' => h'
  | .gf _, _, ⟨x, h1, h2⟩ => ⟨x, h1, VR.mono h _ _ h2⟩
  | .D9 _, _, ⟨x, h1, h2⟩ => ⟨x, h1, VR.mono h _ _ h2⟩
theorem xK.settle {ρ : bN} : ∀ {md : Md} {u : FrameMode}, xK ρ md u → xK ρ (rH md) (Go.settle u)
  | .ret, u, h => by have h : u = .returning := h; subst h; rfl
  | .gf v, u, ⟨x, h1, h2⟩ => by subst h1; exact ⟨x, rfl, h2⟩
  | .D9 v, u, ⟨x, h1, h2⟩ => by subst h1; rfl
theorem xK.AD {ρ : bN} : ∀ {md : Md} {u : FrameMode}, xK ρ md u → u ≠ .run
  | .ret, u, h => by have h : u = .returning := h; subst h; simp
  | .gf v, u, ⟨x, h1, h2⟩ => by subst h1; simp
  | .D9 v, u, ⟨x, h1, h2⟩ => by subst h1; simp
def SQ (Q : Exit → Act → List Frame → World → Prop) (c₀ : Frame) (rest : List Frame) (ρ : bN) (σ : av) (w : World) (n : Nat) (e : Ex) (t' : PT AV) (d' : List DE) (md' : Md) (σ' : av) : Prop :=
  ∀ (ρ' : bN) (w' : World) (a' : Act) (u' : FrameMode) (E : Exit), Inv ρ' σ' w' → dA ρ σ w ρ' σ' w' → TR ρ' t' n a'.tmps → DR ρ' d' a'.defers → xK ρ' md' u' → Hr ρ' e E → Q E a' ({ c₀ with mode := u' } :: rest) w'
theorem B2 {o : Oper} (h : isRec o = true) : ∃ c, o.op = .call c ∧ c.callee = .builtin .recover := by
  unfold isRec at h
  split at h
  · rename_i c hc
    split at h
    · rename_i hb; exact ⟨c, hc, hb⟩
    · cases h
  · cases h
theorem fQ (hov : ∀ g, G.ov g = true → lM P g) {ops : Array Oper} {n m : Nat} {Q : Exit → Act → List Frame → World → Prop} {c₀ : Frame} {rest : List Frame} {e : Ex} {t' : PT AV} {d' : List DE} {md' : Md} {σ' : av} :
    ∀ (l : List Oper) (i : Nat), ops.toList.drop i = l → ∀ (t : PT AV) (md : Md) (σ : av) (ρ : bN) (w : World) (a : Act) (u : FrameMode), Em P G ops n l t md σ = .ok e t' d' md' σ' → Inv ρ σ w → GR ρ G → TR ρ t n a.tmps → DR ρ [] a.defers → xK ρ md u →
      SQ Q c₀ rest ρ σ w n e t' d' md' σ' → wpOpsSIn Fence.wide m P ops Q (List.range' i l.length) a ({ c₀ with mode := u } :: rest) w
  | [], i, hl, t, md, σ, ρ, w, a, u, h, hi, hg, ht, hd, hm, hQ => by
    have h' : SR.ok .normal t [] md σ = .ok e t' d' md' σ' := h
    cases h'
    exact hQ ρ w a u _ hi (dA.refl _ _ _) ht hd hm rfl
  | o :: l, i, hl, t, md, σ, ρ, w, a, u, h, hi, hg, ht, hd, hm, hQ => by
    have hoi : ops[i]? = some o := by
      rw [← Array.getElem?_toList]
      have : (ops.toList.drop i)[0]? = some o := by rw [hl]; rfl
      simpa using this
    have hl' : ops.toList.drop (i + 1) = l := by
      rw [← List.drop_drop, hl]; rfl
    have h' : FM P G ops n o t md σ (Em P G ops n l) = .ok e t' d' md' σ' := h
    unfold FM at h'
    simp only [List.length_cons, List.range'_succ, wpOpsSIn, hoi]
    refine ⟨fun f _ => trivial, ?_⟩
    cases hw : bj ops t o with
    | none => rw [hw] at h'; cases h'
    | some b =>
      rw [hw] at h'
      rw [lQ hw ht]
      cases b with
      | false =>
        dsimp only at h'
        cases hp : cK t n o.dst unit with
        | none => rw [hp] at h'; cases h'
        | some t₁ =>
          rw [hp] at h'
          simp only [Bool.false_eq_true, if_false]
          exact fQ hov l (i + 1) hl' t₁ md σ ρ w _ u h' hi hg (ht.put hp iQ) (by rw [put_defers]; exact hd) hm hQ
      | true =>
        dsimp only at h'
        simp only [if_true]
        rw [aN] at h'
        split at h'
        · rename_i hr
          obtain ⟨c, ho, hcal⟩ := B2 hr
          cases hp : cK t n o.dst (EI md) with
          | none => rw [hp] at h'; cases h'
          | some t₁ =>
            rw [hp] at h'
            have hex : (execOp a.eval o).run P w = .ok .recover w := by
              simp only [execOp, ho, resolve, hcal, Sem.run_bind, Sem.run_pure, Result.andThen_ok, invoke, builtin]
            rw [hex]
            cases md with
            | ret =>
              have hm : u = .returning := hm
              subst hm
              simp only [recoverD]
              exact fQ hov l (i + 1) hl' t₁ .ret σ ρ w _ .returning h' hi hg (ht.put hp (by simp only [EI, VR])) (by rw [put_defers]; exact hd) rfl hQ
            | gf v =>
              obtain ⟨x, rfl, hv⟩ := hm
              simp only [recoverD]
              exact fQ hov l (i + 1) hl' t₁ (.D9 v) σ ρ w _ (.panicking [{ v := x, recovered := true }]) h' hi hg (ht.put hp hv) (by rw [put_defers]; exact hd) ⟨x, rfl, hv⟩ hQ
            | D9 v =>
              obtain ⟨x, rfl, hv⟩ := hm
              simp only [recoverD]
              exact fQ hov l (i + 1) hl' t₁ (.D9 v) σ ρ w _ (.panicking [{ v := x, recovered := true }]) h' hi hg (ht.put hp (by simp only [EI, VR])) (by rw [put_defers]; exact hd) ⟨x, rfl, hv⟩ hQ
        · cases he : cZ P G (aX G t) σ o.op with
          | val v σ₁ =>
            rw [he] at h'
            dsimp only at h'
            cases hp : cK t n o.dst v with
            | none => rw [hp] at h'; cases h'
            | some t₁ =>
              rw [hp] at h'
              have ho := lE (P := P) (w := w) (o := o) (f := a.eval) hov hi (ur _ hg ht) he (fun n => by simp)
              generalize hq : (execOp a.eval o).run P w = res at ho ⊢
              cases ho with
              | val hv hi₁ st₁ =>
                have hle := st₁.le hi
                exact fQ hov l (i + 1) hl' t₁ md σ₁ _ _ _ u h' hi₁ (hg.mono hle) ((ht.mono hle).put hp hv) (by rw [put_defers]; exact hd) (hm.mono hle)
                  fun ρ' w' a' u' E i' s' => hQ ρ' w' a' u' E i' (st₁.trans s')
          | skip σ₁ =>
            rw [he] at h'
            dsimp only at h'
            cases hp : cK t n o.dst unit with
            | none => rw [hp] at h'; cases h'
            | some t₁ =>
              rw [hp] at h'
              have ho := lE (P := P) (w := w) (o := o) (f := a.eval) hov hi (ur _ hg ht) he (fun n => by simp)
              generalize hq : (execOp a.eval o).run P w = res at ho ⊢
              cases ho with
              | skip hi₁ st₁ =>
                have hle := st₁.le hi
                exact fQ hov l (i + 1) hl' t₁ md σ₁ _ _ _ u h' hi₁ (hg.mono hle) ((ht.mono hle).put hp iQ) (by rw [put_defers]; exact hd) (hm.mono hle)
                  fun ρ' w' a' u' E i' s' => hQ ρ' w' a' u' E i' (st₁.trans s')
          | _ => rw [he] at h'; cases h'
theorem mG {ih : fP} (hS : Sound P G ih) {n m : Nat} {Q : Exit → Act → List Frame → World → Prop} {c₀ : Frame} {rest : List Frame} {c : Code} {t : PT AV} {md : Md} {σ : av} {e : Ex} {t' : PT AV} {d' : List DE} {md' : Md} {σ' : av} (h : uX md (ih c t n [] none σ) = .ok e t' d' md' σ')
    {ρ : bN} {w : World} {a : Act} {u : FrameMode} (hi : Inv ρ σ w) (hg : GR ρ G) (ht : TR ρ t n a.tmps) (hd : DR ρ [] a.defers) (hm : xK ρ md u) (hQ : SQ Q c₀ rest ρ σ w n e t' d' md' σ') : c.wpSIn Fence.wide m P Q a ({ c₀ with mode := u } :: rest) w := by
  cases hc : ih c t n [] none σ with
  | err k => rw [hc] at h; cases h
  | ok e₁ t₁ d₁ σ₁ =>
    rw [hc] at h
    cases h
    exact wpSIn_of_wpIn rfl (hS.run c t n [] none σ e t' d' σ' hc ρ w a none m (fun E a' w' => Q E a' ({ c₀ with mode := u } :: rest) w') hi hg ht hd trivial
      fun ρ' w' a' i s t'' d'' E hE => hQ ρ' w' a' u E i s t'' d'' (hm.mono (s.le hi)) hE)
theorem ku {ih : fP} (hS : Sound P G ih) {n m : Nat} {c₀ : Frame} {rest : List Frame} : ∀ (k : Nat) (c : Code) (t : PT AV) (md : Md) (σ : av) (e : Ex) (t' : PT AV) (d' : List DE) (md' : Md) (σ' : av), wG P G ih k c t n md σ = .ok e t' d' md' σ' →
    ∀ (Q : Exit → Act → List Frame → World → Prop) (ρ : bN) (w : World) (a : Act) (u : FrameMode), Inv ρ σ w → GR ρ G → TR ρ t n a.tmps → DR ρ [] a.defers → xK ρ md u → SQ Q c₀ rest ρ σ w n e t' d' md' σ' → c.wpSIn Fence.wide m P Q a ({ c₀ with mode := u } :: rest) w
  | 0, c, t, md, σ, e, t', d', md', σ', h => by cases h
  | k + 1, c, t, md, σ, e, t', d', md', σ', h => by
    intro Q ρ w a u hi hg ht hd hm hQ
    cases c with
    | seq x y =>
      have h' : GX (wG P G ih k x t n md σ) (fun t md σ => wG P G ih k y t n md σ) = .ok e t' d' md' σ' := h
      refine wpSIn_seq ?_
      cases hx : wG P G ih k x t n md σ with
      | err q => rw [hx] at h'; cases h'
      | ok e₁ t₁ d₁ md₁ σ₁ =>
        rw [hx] at h'
        by_cases he : e₁ = .normal
        · subst he
          cases d₁ with
          | cons _ _ => cases h'
          | nil =>
            refine ku hS k x t md σ _ _ _ _ _ hx _ ρ w a u hi hg ht hd hm fun ρ₁ w₁ a₁ u₁ E i₁ s₁ t₁' d₁' m₁ hE => ?_
            have hE : E = .normal := hE
            subst hE
            exact ku hS k y _ _ _ _ _ _ _ _ h' Q ρ₁ w₁ a₁ u₁ i₁ (hg.mono (s₁.le hi)) t₁' d₁' m₁ fun ρ' w' a' u' E i' s' => hQ ρ' w' a' u' E i' (s₁.trans s')
        · have h'' : SR.ok e₁ t₁ d₁ md₁ σ₁ = .ok e t' d' md' σ' := by cases e₁ <;> first | exact absurd rfl he | exact h'
          cases h''
          refine ku hS k x t md σ _ _ _ _ _ hx _ ρ w a u hi hg ht hd hm fun ρ₁ w₁ a₁ u₁ E i₁ s₁ t₁' d₁' m₁ hE => ?_
          have := hQ ρ₁ w₁ a₁ u₁ E i₁ s₁ t₁' d₁' m₁ hE
          cases e with
          | normal => exact absurd rfl he
          | gf v => obtain ⟨x, rfl, _⟩ := hE; exact this
          | exit i => have hE : E = .exit i := hE; subst hE; exact this
          | goto i => have hE : E = .goto i := hE; subst hE; exact this
          | ret => have hE : E = .ret := hE; subst hE; exact this
    | region id ops draw =>
      have h' : (bif draw then uX md (ih (.region id ops draw) t n [] none σ) else bif Dr ops.toList then Em P G ops n ops.toList t md σ else uX md (ih (.region id ops draw) t n [] none σ)) = .ok e t' d' md' σ' := h
      cases draw with
      | true => exact mG hS h' hi hg ht hd hm hQ
      | false =>
        simp only [cond_false] at h'
        rw [aN] at h'
        split at h'
        · refine wpSIn_region ?_
          have := fQ hS.cx.ov (m := m) (Q := Q) (c₀ := c₀) (rest := rest) ops.toList 0 rfl t md σ ρ w a u h' hi hg ht hd hm hQ
          rw [List.range_eq_range']
          simpa using this
        · exact mG hS h' hi hg ht hd hm hQ
    | _ => exact mG hS h hi hg ht hd hm hQ
theorem BW {fn : Func} {r : SR} {md' : Md} {σ' : av} (h : Gy P fn r = some (md', σ')) : ∃ e t md v, r = .ok e t [] md σ' ∧ md' = rH md ∧ (e = .normal ∨ e = .ret) ∧ dq P fn t σ' = some v := by
  unfold Gy at h
  split at h
  · split at h
    · rename_i v hv
      cases h
      exact ⟨_, _, _, v, rfl, rfl, .inl rfl, hv⟩
    · cases h
  · split at h
    · rename_i v hv
      cases h
      exact ⟨_, _, _, v, rfl, rfl, .inr rfl, hv⟩
    · cases h
  · cases h
theorem wb {ih : fP} (hS : Sound P G ih) {f : Nat} {args : List AV} {xs : Array Value} {md md' : Md} {σ' : av} {u : FrameMode} {m : Nat} (h : rL P G ih f args md σ = some (md', σ')) (hi : Inv ρ σ w) (hg : GR ρ G) (hx : bX ρ args xs.toList) (hm : xK ρ md u)
    {R : Ending → FrameMode → World → Prop} (hR : ∀ (ρ' : bN) (w' : World) (u' : FrameMode) (v : Value), Inv ρ' σ' w' → dA ρ σ w ρ' σ' w' → xK ρ' md' (Go.settle u') → R (.returned v) u' w') : CallsDIn Fence.wide m P f xs u w R := by
  unfold rL at h
  cases hf : P.funcs[f]? with
  | none => rw [hf] at h; cases h
  | some fn =>
  rw [hf] at h
  dsimp only at h
  cases hb : fn.body with
  | none => rw [hb] at h; cases h
  | some c =>
  cases ha : mB fn.ntmps args with
  | none => rw [hb, ha] at h; cases h
  | some t =>
  rw [hb, ha] at h
  dsimp only at h
  obtain ⟨e, t₁, md₁, v, hr, rfl, he, hres⟩ := BW h
  have ht := rW ha hx
  refine callsDIn_of_wpSIn hf hb trivial fun c₀ cs hu => ?_
  have hc₀ : ({ c₀ with mode := u } : Frame) = c₀ := by subst hu; rfl
  have key := ku hS (m := m) (c₀ := c₀) (rest := cs) 30 c t md σ e t₁ [] md₁ σ' hr (bodyPostS P fn c₀ cs R) ρ w { tmps := xs ++ Array.replicate (fn.ntmps - xs.size) undef, defers := [] } u hi hg ht rfl hm
  rw [hc₀] at key
  refine key fun ρ' w' a' u' E i' s' t'' d'' m' hE => ?_
  obtain ⟨y, hy, _⟩ := oe (P := P) i' t'' hres
  have hd0 : a'.defers = [] := d''
  have fin : bodyPostS P fn c₀ cs R .normal a' ({ c₀ with mode := u' } :: cs) w' := ⟨hd0, u', rfl, y, hy, hR ρ' w' u' y i' s' m'.settle⟩
  rcases he with rfl | rfl
  · have hE : E = .normal := hE
    subst hE
    exact fin
  · have hE : E = .ret := hE
    subst hE
    exact fin
theorem jZ {ih : fP} (hS : Sound P G ih) {fn : Func} {m : Nat} {tmps : Array Value} {R : Ending → World → Prop} : ∀ (d : List DE) (ds : List Deferred) (md : Md) (σ : av) (md₁ : Md) (σ₁ : av) (ρ : bN) (w : World) (u : FrameMode), oH P G ih d md σ = some (md₁, σ₁) → DR ρ d ds → Inv ρ σ w → GR ρ G → xK ρ md u →
    (∀ (ρ' : bN) (w' : World) (u' : FrameMode), Inv ρ' σ₁ w' → dA ρ σ w ρ' σ₁ w' → xK ρ' md₁ u' → LeavesIn Fence.wide m P fn tmps R [] u' w') → LeavesInM Fence.wide m P fn tmps R ds u w
  | [], ds, md, σ, md₁, σ₁, ρ, w, u, h, hd, hi, hg, hm, hk => by
    have h' : some (md, σ) = some (md₁, σ₁) := h
    cases h'
    have : ds = [] := hd
    subst this
    exact hk ρ w u hi (dA.refl ρ σ w) hm
  | .mark b :: d, ds, md, σ, md₁, σ₁, ρ, w, u, h, hd, hi, hg, hm, hk => by
    obtain ⟨l, r, hl, rfl, hd'⟩ := hd
    have h' : (match σ.m.get b with
        | some .mark => oH P G ih d md (σ.setObj b .dead)
        | _ => none) = some (md₁, σ₁) := h
    cases hb : σ.m.get b with
    | none => rw [hb] at h'; cases h'
    | some o =>
      rw [hb] at h'
      cases o with
      | mark =>
        dsimp only at h'
        obtain ⟨x, hx, hox⟩ := hi.obj b _ l hb hl
        have hox' : x = .deferred (some []) := hox
        subst hox'
        obtain ⟨inv, st⟩ := hi.putObj (o' := .dead) (x := .deferred none) hb hl rfl rfl trivial
        refine ⟨hm.AD, .inl ⟨l.cF, w.putObj l.cF (.deferred none), rfl, run_takeDeferred hx, ?_⟩⟩
        exact jZ hS d r md _ md₁ σ₁ ρ _ u h' hd' inv hg hm fun ρ' w' u' hi' st' => hk ρ' w' u' hi' (st.trans st')
      | _ => cases h'
  | .call f args ca :: d, ds, md, σ, md₁, σ₁, ρ, w, u, h, hd, hi, hg, hm, hk => by
    obtain ⟨xs, cs, r, rfl, hxs, hcs, hd'⟩ := hd
    have h' : (bif rk P f then (match rL P G ih f (eJ args ca) md σ with
        | some (md', σ') => oH P G ih d md' σ'
        | none => none) else none) = some (md₁, σ₁) := h
    rw [aN] at h'
    split at h'
    · rename_i hgo
      cases hr : rL P G ih f (eJ args ca) md σ with
      | none => rw [hr] at h'; cases h'
      | some q =>
        obtain ⟨md', σ'⟩ := q
        rw [hr] at h'
        dsimp only at h'
        have hinv : (invoke (.fn (.func f) cs) xs).run P w = .ok (.enter f (xs ++ cs)) w := by
          simp only [invoke]
          exact oZ hgo
        refine ⟨hm.AD, .inr ⟨fun h => (by cases h), .func f, cs, f, xs ++ cs, rfl, hinv, fun _ _ => trivial, ?_⟩⟩
        refine wb hS hr hi hg (by rw [cN]; simpa using hxs.append hcs) hm fun ρ' w' u' v i' s' m' => ?_
        have hle := s'.le hi
        exact jZ hS d r md' σ' md₁ σ₁ ρ' w' (Go.settle u') h' (hd'.mono hle) i' (hg.mono hle) m' fun ρ'' w'' u'' i'' s'' => hk ρ'' w'' u'' i'' (s'.trans s'')
    · cases h'
theorem qo {ih : fP} (hS : Sound P G ih) {fn : Func} {m n : Nat} {t : PT AV} {d : List DE} {md : Md} {r : KR} {a : Act} {u : FrameMode} {R : Ending → World → Prop} (h : ua P G ih fn md t d σ = r) (hne : ∀ n, r ≠ .err n) (hi : Inv ρ σ w) (hg : GR ρ G) (ht : TR ρ t n a.tmps) (hd : DR ρ d a.defers) (hm : xK ρ md u)
    (hR : ∀ (ρ' : bN) (w' : World) (E : Ending), Inv ρ' r.heap w' → dA ρ σ w ρ' r.heap w' → G1 ρ' r E → R E w') : LeavesInM Fence.wide m P fn a.tmps R a.defers u w := by
  unfold ua at h
  cases hl : oH P G ih d md σ with
  | none => rw [hl] at h; exact absurd h.symm (hne 71)
  | some q =>
    obtain ⟨md₁, σ₁⟩ := q
    rw [hl] at h
    cases md₁ with
    | ret =>
      dsimp only at h
      cases hr : dq P fn t σ₁ with
      | none => rw [hr] at h; exact absurd h.symm (hne 70)
      | some v =>
        rw [hr] at h
        subst h
        refine jZ hS d a.defers md σ _ _ ρ w u hl hd hi hg hm fun ρ' w' u' hi' st' hm' => ?_
        have hm' : u' = .returning := hm'
        subst hm'
        obtain ⟨x, hx, hv⟩ := oe (P := P) hi' (ht.mono (st'.le hi)) hr
        exact ⟨x, hx, hR ρ' w' _ hi' st' ⟨x, rfl, hv⟩⟩
    | gf v =>
      dsimp only at h
      subst h
      refine jZ hS d a.defers md σ _ _ ρ w u hl hd hi hg hm fun ρ' w' u' hi' st' hm' => ?_
      obtain ⟨x, rfl, hv⟩ := hm'
      exact hR ρ' w' _ hi' st' ⟨x, rfl, hv⟩
    | D9 v => exact absurd h.symm (hne 71)
theorem uC {ih : fP} (hS : Sound P G ih) {f : Nat} {args : List AV} {xs : Array Value} {r : KR} (h : iv P G ih f args σ = r) (hne : ∀ n, r ≠ .err n) (hi : Inv ρ σ w) (hg : GR ρ G) (hx : bX ρ args xs.toList)
    (rl : Option Nat) (m : Nat) {R : Ending → World → Prop} (hR : ∀ (ρ' : bN) (w' : World) (E : Ending), Inv ρ' r.heap w' → dA ρ σ w ρ' r.heap w' → G1 ρ' r E → R E w') : CallsIn (gJ rl) m P f xs w R := by
  refine oK rl ?_
  unfold iv at h
  cases hf : P.funcs[f]? with
  | none => rw [hf] at h; exact absurd h.symm (hne 74)
  | some fn =>
  rw [hf] at h
  dsimp only at h
  cases hb : fn.body with
  | none => rw [hb] at h; exact absurd h.symm (hne 73)
  | some c =>
  cases ha : mB fn.ntmps args with
  | none => rw [hb, ha] at h; exact absurd h.symm (hne 73)
  | some t =>
  rw [hb, ha] at h
  dsimp only at h
  refine callsIn_of_wp_marks hf hb trivial ?_
  have ht := rW ha hx
  cases hc : ih c t fn.ntmps [] none σ with
  | err k => rw [hc] at h; exact absurd h.symm (hne k)
  | ok e t' d' σ₁ =>
    rw [hc] at h
    have hcode := fun (Q : Exit → Act → World → Prop) hQ => hS.run c t fn.ntmps [] none σ e t' d' σ₁ hc ρ w { tmps := xs ++ Array.replicate (fn.ntmps - xs.size) undef, defers := [] } none m Q hi hg ht rfl trivial hQ
    cases e with
    | normal =>
      refine hcode _ fun ρ' w' a' hi' st ht' hd' E hE => ?_
      have hE : E = .normal := hE
      subst hE
      exact qo hS h hne hi' (hg.mono (st.le hi)) ht' hd' (md := .ret) rfl fun ρ₂ w₂ E i₂ s₂ hE => hR ρ₂ w₂ E i₂ (st.trans s₂) hE
    | ret =>
      refine hcode _ fun ρ' w' a' hi' st ht' hd' E hE => ?_
      have hE : E = .ret := hE
      subst hE
      exact qo hS h hne hi' (hg.mono (st.le hi)) ht' hd' (md := .ret) rfl fun ρ₂ w₂ E i₂ s₂ hE => hR ρ₂ w₂ E i₂ (st.trans s₂) hE
    | gf v =>
      refine hcode _ fun ρ' w' a' hi' st ht' hd' E hE => ?_
      obtain ⟨x, rfl, hv⟩ := hE
      exact qo hS h hne hi' (hg.mono (st.le hi)) ht' hd' (md := .gf v) ⟨x, rfl, hv⟩ fun ρ₂ w₂ E i₂ s₂ hE => hR ρ₂ w₂ E i₂ (st.trans s₂) hE
    | exit i => exact absurd h.symm (hne 72)
    | goto i => exact absurd h.symm (hne 72)
theorem j0 {ih : fP} (hS : Sound P G ih) {f : Nat} {args : List AV} {xs : Array Value} {σ' : av} {v : AV} (h : iv P G ih f args σ = .ret v σ') (hi : Inv ρ σ w) (hg : GR ρ G) (hx : bX ρ args xs.toList)
    (rl : Option Nat) (m : Nat) {R : Ending → World → Prop} (hR : ∀ (ρ' : bN) (w' : World) (x : Value), Inv ρ' σ' w' → dA ρ σ w ρ' σ' w' → VR ρ' v x → R (.returned x) w') : CallsIn (gJ rl) m P f xs w R :=
  uC hS h (fun n h => by cases h) hi hg hx rl m fun ρ' w' E i s ⟨x, hE, hv⟩ => by subst hE; exact hR ρ' w' x i s hv
theorem kX {ρ ρ' : bN} {v : AV} {x : Value} (h : jm v = true) (hv : VR ρ v x) : VR ρ' v x := by
  cases v <;> first | (simp [jm] at h; done) | (simp only [VR] at hv ⊢; exact hv)
theorem pG {v : AV} {l : List AV} (h : dz (v :: l) = true) : jm v = true ∧ dz l = true := by
  have h' : (bif jm v then dz l else false) = true := h
  cases hv : jm v with
  | true => rw [hv] at h'; exact ⟨rfl, h'⟩
  | false => rw [hv] at h'; cases h'
theorem iq : ∀ {l : List AV}, dz l = true → ∀ v ∈ l, jm v = true
  | [], _, v, hv => by cases hv
  | x :: l, h, v, hv => by
    obtain ⟨h1, h2⟩ := pG h
    rcases List.mem_cons.1 hv with rfl | hv
    · exact h1
    · exact iq h2 v hv
theorem qY {ρ ρ' : bN} : ∀ {vs : List AV} {xs : List Value}, dz vs = true → bX ρ vs xs → bX ρ' vs xs
  | [], xs, _, h => by rw [h.dD]; exact bX.nil
  | v :: vs, xs, h, hv => by
    obtain ⟨h1, h2⟩ := pG h
    obtain ⟨x, r, rfl, h3, h4⟩ := hv.cons_inv
    exact bX.cons (kX h1 h3) (qY h2 h4)
theorem Br {x y : AV} (h : vM x y = true) : x = y := by
  unfold vM at h
  split at h
  · rw [jI] at h; rw [eq_of_beq h]
  · rw [Bool.and_eq_true, dX, decide_eq_true_eq] at h; rw [mO h.1, h.2]
  · rw [qd, decide_eq_true_eq] at h; rw [h]
  · rfl
  · rfl
  · rfl
  · rfl
  · rfl
  · cases h
theorem jy : ∀ {xs ys : List AV}, gz xs ys = true → xs = ys
  | [], [], _ => rfl
  | [], _ :: _, h => by cases h
  | _ :: _, [], h => by cases h
  | x :: xs, y :: ys, h => by
    have h' : (bif vM x y then gz xs ys else false) = true := h
    rw [aN] at h'
    split at h'
    · rename_i hb; rw [Br hb, jy h']
    · cases h'
theorem pV (v : AV) : ∀ (n : Nat), z8 n v = List.replicate n v
  | 0 => rfl
  | n + 1 => by show v :: z8 n v = _; rw [pV v n, List.replicate_succ]
theorem gN.inv {w w' : World} (hk : gN w w') (hi : Inv ρ σ w) : Inv ρ σ w' ∧ dA ρ σ w ρ σ w' :=
  hi.of ⟨⟨hi.fresh, fun b l hb => Nat.lt_of_lt_of_le (hi.cF b l hb) hk.size, fun b o l hb hl => let ⟨x, hx, ho⟩ := hi.obj b o l hb hl; ⟨x, by rw [hk.same _ (hi.cF b l hl)]; exact hx, ho⟩, hi.inj⟩,
    ⟨fun _ _ => rfl, Nat.le_refl _, hk.size, fun r hr _ => hk.same r hr, fun _ h _ => h, hk.tape, hk.os, hk.out⟩⟩
theorem Ar {b vb : Pos} {o o' : bF} (x : Pos) : (dL σ b o vb o').m.get x = if x = vb then some o' else if x = b then some o else none := by
  unfold dL
  rw [PT.gC, PT.gC, PT.jt]
theorem EE (hi : Inv ρ σ w) {b vb : Pos} {o o₁ o' : bF} {l : Loc} (hb : σ.m.get b = some o) (hvb : σ.m.get vb = some o') (hl : ρ b = some l) (hro : o.ro = o₁.ro)
    (ho : ∀ x, fh ρ l o x → fh ρ l o₁ x) : Inv ρ (dL σ b o₁ vb o') w := by
  have back : ∀ x q, (dL σ b o₁ vb o').m.get x = some q → ∃ q', σ.m.get x = some q' ∧ q.ro = q'.ro ∧ ((x = b ∧ q = o₁) ∨ q = q') := fun x q h => by
    rw [Ar] at h
    by_cases e : x = vb
    · rw [if_pos e] at h; cases h; exact ⟨o', by rw [e]; exact hvb, rfl, .inr rfl⟩
    · rw [if_neg e] at h
      by_cases e' : x = b
      · rw [if_pos e'] at h; cases h; exact ⟨o, by rw [e']; exact hb, hro.symm, .inl ⟨e', rfl⟩⟩
      · rw [if_neg e'] at h; cases h
  refine ⟨⟨fun x hx => ⟨(hi.fresh x hx).1, ?_⟩, hi.cF, fun x q lx hx hlx => ?_, fun x y q r lx ly hx hy hlx hly he hne => ?_⟩, hi.mf.size, hi.mf.same, fun r hr ⟨x, q, l', h1, h2, h3, h4⟩ => ?_⟩
  · cases hq : (dL σ b o₁ vb o').m.get x with
    | none => rfl
    | some q =>
      obtain ⟨q', h', _⟩ := back x q hq
      rw [(hi.fresh x hx).2] at h'; cases h'
  · obtain ⟨q', h', _, h''⟩ := back x q hx
    obtain ⟨y, hy, hr⟩ := hi.obj x q' lx h' hlx
    refine ⟨y, hy, ?_⟩
    rcases h'' with ⟨rfl, rfl⟩ | rfl
    · rw [hb] at h'; cases h'
      rw [hl] at hlx; cases hlx
      exact ho y hr
    · exact hr
  · obtain ⟨q', h1, h2, _⟩ := back x q hx
    obtain ⟨r', h3, h4, _⟩ := back y r hy
    rw [h2, h4]
    exact hi.inj x y q' r' lx ly h1 h3 hlx hly he hne
  · obtain ⟨q', h5, h6, _⟩ := back x q h1
    exact hi.mf.no r hr ⟨x, q', l', h5, by rw [← h6]; exact h2, h3, h4⟩
theorem BT (hi : Inv ρ σ w) {b vb : Pos} {cells cells' vc : List AV} {e ve : Nat} {l lv : Loc} (hb : σ.m.get b = some (.row cells e false)) (hvb : σ.m.get vb = some (.row vc ve false)) (hlb : ρ b = some l) (hlv : ρ vb = some lv)
    (hne : b ≠ vb) {ρ₁ : bN} {σ₁ : av} {w₁ : World} (i₁ : Inv ρ₁ σ₁ w₁) (s₁ : dA ρ (dL σ b (.row cells' e false) vb (.row vc ve false)) w ρ₁ σ₁ w₁) {b₁ : Pos} {l₁ : Loc} {cs₁ : List AV} {o₁ k : Nat}
    (g₁ : σ₁.m.get b₁ = some (.row cs₁ e false)) (hl₁ : ρ₁ b₁ = some l₁) (gv : σ₁.m.get vb = some (.row vc ve false)) (hne₁ : b₁ ≠ vb) (hfv : dz vc = true) (hk : o₁ + k ≤ cs₁.length) (hfr : dz ((cs₁.drop o₁).take k) = true) :
    tJ (ρ.with σ.next ⟨l₁.cF, l₁.sh + o₁, l₁.cells - o₁⟩) ((σ.drop b).alloc (.row ((cs₁.drop o₁).take k) e false)) w₁ ∧
      dA ρ σ w (ρ.with σ.next ⟨l₁.cF, l₁.sh + o₁, l₁.cells - o₁⟩) ((σ.drop b).alloc (.row ((cs₁.drop o₁).take k) e false)) w₁ := by
  have hle := hi.rz ⟨l₁.cF, l₁.sh + o₁, l₁.cells - o₁⟩
  have hsame : ((σ.drop b).alloc (.row ((cs₁.drop o₁).take k) e false)).m.get σ.next = some (.row ((cs₁.drop o₁).take k) e false) := PT.cD _ _ _
  have hget : ∀ x, x ≠ σ.next → ((σ.drop b).alloc (.row ((cs₁.drop o₁).take k) e false)).m.get x = if x = b then none else σ.m.get x := fun x hx => by
    show ((σ.m.put none b).put _ σ.next).get x = _
    rw [PT.cy _ _ _ _ hx, PT.gC]
  have mf : ∀ x q, x ≠ σ.next → ((σ.drop b).alloc (.row ((cs₁.drop o₁).take k) e false)).m.get x = some q → x ≠ b ∧ σ.m.get x = some q := fun x q hx h => by
    rw [hget x hx] at h
    split at h
    · cases h
    · rename_i hxb; exact ⟨hxb, h⟩
  have hold : ∀ x lx, x ≠ σ.next → (ρ.with σ.next ⟨l₁.cF, l₁.sh + o₁, l₁.cells - o₁⟩) x = some lx → ρ x = some lx := fun x lx hx h => by rwa [bN.cV ρ _ hx] at h
  have hnb : ∀ x : Pos, x.num < σ.next.num → x ≠ σ.next := fun x hx e => by subst e; exact Nat.lt_irrefl _ hx
  have wr2 : ∀ r, Wr ρ (dL σ b (.row cells' e false) vb (.row vc ve false)) r → r = l.cF ∨ r = lv.cF := fun r ⟨x, q, lx, h1, h2, h3, h4⟩ => by
    rw [Ar] at h1
    by_cases ev : x = vb
    · subst ev; rw [hlv] at h3; cases h3; exact .inr h4.symm
    · rw [if_neg ev] at h1
      by_cases eb : x = b
      · subst eb; rw [hlb] at h3; cases h3; exact .inl h4.symm
      · rw [if_neg eb] at h1; cases h1
  have wrs : ∀ r, Wr ρ (dL σ b (.row cells' e false) vb (.row vc ve false)) r → Wr ρ σ r := fun r h => by
    rcases wr2 r h with rfl | rfl
    · exact ⟨b, _, l, hb, rfl, hlb, rfl⟩
    · exact ⟨vb, _, lv, hvb, rfl, hlv, rfl⟩
  have away : ∀ x q lx, x ≠ b → x ≠ vb → σ.m.get x = some q → ρ x = some lx → lx.cF ≠ l.cF ∧ lx.cF ≠ lv.cF := fun x q lx h1 h2 h3 h4 => by
    constructor
    · intro he
      have := (hi.inj x b q _ lx l h3 hb h4 hlb he h1).2
      simp [bF.ro] at this
    · intro he
      have := (hi.inj x vb q _ lx lv h3 hvb h4 hlv he h2).2
      simp [bF.ro] at this
  have hnew : ∀ x q lx, x ≠ b → σ.m.get x = some q → ρ x = some lx → lx.cF ≠ l₁.cF := fun x q lx h1 h3 h4 he => by
    have hlt := hi.cF x lx h4
    have hw : Wr ρ₁ σ₁ lx.cF := ⟨b₁, _, l₁, g₁, rfl, hl₁, he.symm⟩
    by_cases h2 : x = vb
    · subst h2
      rw [hlv] at h4; cases h4
      have hlv₁ : ρ₁ x = some lv := s₁.ext x (hi.zW hlv) |>.trans hlv
      have := (i₁.inj b₁ x _ _ l₁ lv g₁ gv hl₁ hlv₁ he.symm hne₁).1
      simp [bF.ro] at this
    · obtain ⟨a1, a2⟩ := away x q lx h1 h2 h3 h4
      rcases wr2 _ (s₁.wr _ hw hlt) with h | h
      · exact a1 h
      · exact a2 h
  have flatObj : ∀ {l' : Loc} {c : List AV} {e' : Nat} {y : Obj} {ρa ρb : bN}, dz c = true → fh ρa l' (.row c e' false) y → fh ρb l' (.row c e' false) y := fun hc ho => by
    obtain ⟨c', fr, h1, h2, h3, h4, h5⟩ := ho
    exact ⟨c', fr, h1, h2, h3, fun i v hv => let ⟨z, hz, hzv⟩ := h4 i v hv; ⟨z, hz, kX (iq hc v (List.mem_of_getElem? hv)) hzv⟩, h5⟩
  constructor
  · refine ⟨fun x hx => ?_, fun x lx hlx => ?_, fun x q lx hx hlx => ?_, fun x y q r lx ly hx hy hlx hly he hne' => ?_⟩
    · have hx' : σ.next.num + 1 ≤ x.num := by simpa [av.alloc, av.drop, Pos.fK] using hx
      have hxn : x ≠ σ.next := fun e => by subst e; omega
      have hf := hi.fresh x (by omega)
      rw [bN.cV ρ _ hxn, hget x hxn]
      exact ⟨hf.1, by split <;> simp [hf.2]⟩
    · by_cases hxn : x = σ.next
      · subst hxn; rw [bN.bI] at hlx; cases hlx; exact i₁.cF b₁ l₁ hl₁
      · exact Nat.lt_of_lt_of_le (hi.cF x lx (hold x lx hxn hlx)) s₁.size
    · by_cases hxn : x = σ.next
      · subst hxn
        rw [hsame] at hx; rw [bN.bI] at hlx; cases hx; cases hlx
        obtain ⟨c, fr, h1, h2, h3, h4, h5⟩ := i₁.row g₁ hl₁
        refine ⟨_, h1, c, fr, rfl, ?_, ?_, fun i v hv => ?_, fun _ j hj => h5 rfl j (by have hj' : l₁.sh + o₁ ≤ j := hj; omega)⟩
        · show c.size = l₁.sh + o₁ + (l₁.cells - o₁); omega
        · show ((cs₁.drop o₁).take k).length ≤ l₁.cells - o₁; rw [List.length_take, List.length_drop]; omega
        · have hv' : cs₁[o₁ + i]? = some v := by
            rw [List.getElem?_take] at hv
            split at hv
            · rwa [List.getElem?_drop] at hv
            · cases hv
          obtain ⟨y, hy, hyv⟩ := h4 _ v hv'
          exact ⟨y, by rw [← Nat.add_assoc] at hy; exact hy, kX (iq hfr v (List.mem_of_getElem? hv)) hyv⟩
      · obtain ⟨hxb, hx'⟩ := mf x q hxn hx
        have hlx' := hold x lx hxn hlx
        by_cases hxv : x = vb
        · subst hxv
          rw [hvb] at hx'; cases hx'
          rw [hlv] at hlx'; cases hlx'
          have hlv₁ : ρ₁ x = some lv := (s₁.ext x (hi.zW hlv)).trans hlv
          obtain ⟨y, hy, hr⟩ := i₁.obj x _ lv gv hlv₁
          exact ⟨y, hy, flatObj hfv hr⟩
        · obtain ⟨y, hy, hr⟩ := hi.obj x q lx hx' hlx'
          refine ⟨y, ?_, hr.mono hle⟩
          rw [s₁.frame _ (hi.cF x lx hlx') (fun h => ?_)]
          · exact hy
          · obtain ⟨a1, a2⟩ := away x q lx hxb hxv hx' hlx'
            rcases wr2 _ h with h | h
            · exact a1 h
            · exact a2 h
    · by_cases e1 : x = σ.next <;> by_cases e2 : y = σ.next
      · exact absurd (e1.trans e2.symm) hne'
      · subst e1
        rw [bN.bI] at hlx; cases hlx
        obtain ⟨hyb, hy'⟩ := mf y r e2 hy
        exact absurd he.symm (hnew y r ly hyb hy' (hold y ly e2 hly))
      · subst e2
        rw [bN.bI] at hly; cases hly
        obtain ⟨hxb, hx'⟩ := mf x q e1 hx
        exact absurd he (hnew x q lx hxb hx' (hold x lx e1 hlx))
      · exact hi.inj x y q r lx ly (mf x q e1 hx).2 (mf y r e2 hy).2 (hold x lx e1 hlx) (hold y ly e2 hly) he hne'
  · refine ⟨fun x hx => bN.cV ρ _ (hnb x hx), by simp [av.alloc, av.drop, Pos.fK], s₁.size, fun r hr hn => s₁.frame r hr fun h => hn (wrs r h), ?_, s₁.tape, s₁.os, s₁.out⟩
    rintro r ⟨x, q, lx, h1, h2, h3, rfl⟩ hr
    by_cases e1 : x = σ.next
    · subst e1
      rw [bN.bI] at h3; cases h3
      exact wrs _ (s₁.wr _ ⟨b₁, _, l₁, g₁, rfl, hl₁, rfl⟩ hr)
    · exact ⟨x, q, lx, (mf x q e1 h1).2, h2, hold x lx e1 h3, rfl⟩
theorem zm (hi : Inv ρ σ w) {b vb : Pos} {cells cells' vc : List AV} {e ve : Nat} {l lv : Loc} (hb : σ.m.get b = some (.row cells e false)) (hvb : σ.m.get vb = some (.row vc ve false)) (hlb : ρ b = some l) (hlv : ρ vb = some lv)
    (hne : b ≠ vb) {ρ₁ : bN} {σ₁ : av} {w₁ : World} (i₁ : Inv ρ₁ σ₁ w₁) (s₁ : dA ρ (dL σ b (.row cells' e false) vb (.row vc ve false)) w ρ₁ σ₁ w₁) {b₁ : Pos} {l₁ : Loc} {cs₁ : List AV} {o₁ k : Nat}
    (g₁ : σ₁.m.get b₁ = some (.row cs₁ e false)) (hl₁ : ρ₁ b₁ = some l₁) (gv : σ₁.m.get vb = some (.row vc ve false)) (hne₁ : b₁ ≠ vb) (hfv : dz vc = true) (hk : o₁ + k ≤ cs₁.length) (hfr : dz ((cs₁.drop o₁).take k) = true) :
    Inv (ρ.with σ.next ⟨l₁.cF, l₁.sh + o₁, l₁.cells - o₁⟩) ((σ.drop b).alloc (.row ((cs₁.drop o₁).take k) e false)) w₁ ∧
      dA ρ σ w (ρ.with σ.next ⟨l₁.cF, l₁.sh + o₁, l₁.cells - o₁⟩) ((σ.drop b).alloc (.row ((cs₁.drop o₁).take k) e false)) w₁ := hi.of (BT hi hb hvb hlb hlv hne i₁ s₁ g₁ hl₁ gv hne₁ hfv hk hfr)
theorem zc {r : KR} {v : AV} {σ' : av} (h : oB r = .ret v σ') : r = .ret v σ' := by
  unfold oB at h
  split at h
  · cases h
  · exact h
theorem zE (r : KR) (v : AV) (σ' : av) : oB r ≠ .gf v σ' := by
  unfold oB
  split
  · intro h; cases h
  · rename_i hn
    intro h
    exact hn _ _ h
theorem zh {ih : fP} (hS : Sound P G ih) {f : Nat} {args : List AV} {xs : Array Value} {σ' : av} {v : AV} (h : Ac P G ih f args σ = .ret v σ') (hi : Inv ρ σ w) (hg : GR ρ G) (hx : bX ρ args xs.toList)
    (rl : Option Nat) (m : Nat) {R : Ending → World → Prop} (hR : ∀ (ρ' : bN) (w' : World) (x : Value), Inv ρ' σ' w' → dA ρ σ w ρ' σ' w' → VR ρ' v x → R (.returned x) w') : CallsIn (gJ rl) m P f xs w R := by
  unfold Ac at h
  split at h
  · rename_i b off n sz i vb voff q mc
    split at h
    · rename_i cells e vc ve hb hvb
      rw [aN] at h
      split at h
      · rename_i hc
        simp only [Bool.and_eq_true, Nat.ble_eq, Nat.beq_eq, bh] at hc
        obtain ⟨hne, hn1, hq1, hfi, hfv, hlen⟩ := hc
        subst hq1
        have hne' : b ≠ vb := fun e => by subst e; rw [mg] at hne; simp at hne
        split at h
        · rename_i n1 r1 n2 r2 hr1 hr2
          rw [aN] at h
          split at h
          · rename_i hq
            rw [Bool.and_eq_true] at hq
            have en := Nat.eq_of_beq_eq_true hq.1
            have er := jy hq.2
            subst en; subst er
            cases h
            obtain ⟨x1, rr, e1, hs, hx2⟩ := hx.cons_inv
            obtain ⟨x2, rr', rfl, hiv, hx3⟩ := hx2.cons_inv
            obtain ⟨x3, rr'', rfl, hvv, hx4⟩ := hx3.cons_inv
            have := hx4.dD
            subst this
            simp only [VR] at hs
            obtain ⟨l, hl, hd⟩ := hs
            have hd' : ∃ c, x1 = .slice (some ⟨l.cF, l.sh + off, none⟩) n c ∧ n ≤ c ∧ off + c * sz = l.cells := by
              rcases hd with h | ⟨h0, _⟩
              · exact h
              · omega
            obtain ⟨c, rfl, hnc, hcells⟩ := hd'
            have hvv' := hvv
            simp only [VR] at hvv'
            obtain ⟨lv, hlv, _⟩ := hvv'
            have go : ∀ (cells' : List AV) (cap : nk) (okc : nk → Nat → Bool), (∀ x, fh ρ l (.row cells e false) x → fh ρ l (.row cells' e false) x) →
                ns vb vc ve e sz (iv P G ih f [.slice b off n cap, i, .slice vb voff 1 (.known mc)] (dL σ b (.row cells' e false) vb (.row vc ve false))) okc = some (n1, r1) →
                VR ρ (.slice b off n cap) (.slice (some ⟨l.cF, l.sh + off, none⟩) n c) →
                (∀ c1 b1 o1 n1 l1 ρ1 x, okc c1 n1 = true → 1 ≤ n1 → ρ1 b1 = some l1 → VR ρ1 (.slice b1 o1 n1 c1) x → ∃ c', x = .slice (some ⟨l1.cF, l1.sh + o1, none⟩) n1 c' ∧ n1 ≤ c' ∧ o1 + c' * sz = l1.cells) →
                CallsIn (gJ rl) m P f xs w R := by
              intro cells' cap okc hobj hres hcap hok
              unfold ns at hres
              split at hres
              · rename_i b1 o1 n1' c1 σ1 hcall
                split at hres
                · rename_i cs1 e1' vc1 ve1 g1 gv
                  rw [aN] at hres
                  split at hres
                  · rename_i hcc
                    simp only [Bool.and_eq_true, Nat.ble_eq, Nat.beq_eq, bh] at hcc
                    obtain ⟨k1, k2, k3, k4, k5, k6, k7, k8⟩ := hcc
                    cases hres
                    have hne1 : b1 ≠ vb := fun e => by subst e; rw [mg] at k2; simp at k2
                    have ev := jy k3
                    subst ev; subst k4; subst k5
                    have hiL := EE hi (o₁ := .row cells' e false) hb hvb hl rfl hobj
                    refine j0 hS hcall hiL hg ?_ rl m fun ρ1 w1 x i1 s1 hvx => ?_
                    · rw [e1]
                      exact bX.cons hcap (bX.cons hiv (bX.cons hvv bX.nil))
                    · obtain ⟨l1, hl1⟩ : ∃ l1, ρ1 b1 = some l1 := by
                        cases c1 <;> simp only [VR] at hvx
                        · obtain ⟨l1, hl1, _⟩ := hvx; exact ⟨l1, hl1⟩
                        · obtain ⟨l1, hl1, _⟩ := hvx; exact ⟨l1, hl1⟩
                        · obtain ⟨l1, hl1, _⟩ := hvx; exact ⟨l1, hl1⟩
                      obtain ⟨c', rfl, hc1, hc2⟩ := hok c1 b1 o1 n1 l1 ρ1 x k1 k6 hl1 hvx
                      rw [ct, cO] at k8 hR
                      obtain ⟨iJ, sJ⟩ := zm (k := n1 * sz) hi hb hvb hl hlv hne' i1 s1 g1 hl1 gv hne1 hfv k7 k8
                      refine hR _ w1 _ iJ sJ ?_
                      simp only [VR]
                      refine ⟨_, bN.bI _ _ _, .inl ⟨c', rfl, hc1, ?_⟩⟩
                      show 0 + c' * sz = l1.cells - o1
                      omega
                  · cases hres
                · cases hres
              · cases hres
            by_cases hcn : c = n
            · subst hcn
              refine go cells (.known c) (y8 sz) (fun _ h => h) hr1 (by simp only [VR]; exact ⟨l, hl, rfl⟩) fun c1 b1 o1 n1 l1 ρ1 x h1 h2 h3 h4 => ?_
              unfold y8 at h1
              split at h1
              · rename_i s
                have := Nat.eq_of_beq_eq_true h1
                subst this
                simp only [VR] at h4
                obtain ⟨l1', h5, ⟨c', h6, h7, h8⟩ | ⟨h0, _⟩⟩ := h4
                · rw [h3] at h5; cases h5; exact ⟨c', h6, h7, h8⟩
                · omega
              · cases h1
            · have hlt : n + 1 ≤ c := by omega
              refine go (eJ (takeN cells (off + n * sz)) (z8 sz .any)) (.least (Nat.succ n) sz) (wv sz) (fun x ho => ?_) hr2 (by simp only [VR]; exact ⟨l, hl, c, rfl, hlt, hcells⟩) fun c1 b1 o1 n1 l1 ρ1 x h1 h2 h3 h4 => ?_
              · obtain ⟨cc, fr, h1, h2, h3, h4, h5⟩ := ho
                have hmul : (n + 1) * sz ≤ c * sz := Nat.mul_le_mul_right _ hlt
                have hsz : (n + 1) * sz = n * sz + sz := Nat.succ_mul n sz
                refine ⟨cc, fr, h1, h2, ?_, fun j v hv => ?_, h5⟩
                · rw [cN, ct, pV, List.length_append, List.length_take, List.length_replicate]; omega
                · rw [cN, ct, pV] at hv
                  by_cases hj : j < off + n * sz
                  · rw [List.getElem?_append_left (by rw [List.length_take]; omega), List.getElem?_take, if_pos hj] at hv
                    exact h4 j v hv
                  · have hj2 : j < (cells.take (off + n * sz) ++ List.replicate sz AV.any).length := (List.getElem?_eq_some_iff.1 hv).1
                    rw [List.length_append, List.length_take, List.length_replicate] at hj2
                    rw [List.getElem?_append_right (by rw [List.length_take]; omega), List.getElem?_replicate] at hv
                    split at hv
                    · cases hv
                      have : l.sh + j < cc.size := by omega
                      exact ⟨cc[l.sh + j], Array.getElem?_eq_getElem this, by simp only [VR]⟩
                    · cases hv
              · unfold wv at h1
                split at h1
                · rename_i a s
                  rw [Bool.and_eq_true, Nat.ble_eq] at h1
                  have := Nat.eq_of_beq_eq_true h1.1
                  subst this
                  simp only [VR] at h4
                  obtain ⟨l1', h5, c', h6, h7, h8⟩ := h4
                  rw [h3] at h5; cases h5
                  exact ⟨c', h6, Nat.le_trans h1.2 h7, h8⟩
                · cases h1
          · cases h
        · cases h
      · cases h
    · cases h
  · exact j0 hS h hi hg hx rl m hR
theorem GR.size (hi : Inv ρ σ w) (hg : GR ρ G) : G.gl ≤ w.heap.size := by
  cases hgl : G.gl with
  | zero => exact Nat.zero_le _
  | succ g =>
    obtain ⟨c, hc⟩ := hg g (by omega)
    have := hi.cF _ _ hc
    exact this
theorem pI (hi : Inv ρ σ w) (hg : GR ρ G) : ∀ (l : List (Nat × List AV)), hX G.gl σ l = true → ∀ x ∈ l, iI w x
  | [], _, x, hx => by cases hx
  | y :: l, h, x, hx => by
    have h' : (bif Nat.ble (Nat.succ y.1) G.gl then (match σ.m.get y.1 with
      | some (.row cells _ true) => bif dz y.2 then (bif gz cells y.2 then hX G.gl σ l else false) else false
      | _ => false) else false) = true := h
    rw [aN] at h'
    split at h'
    · rename_i hlt
      rw [Nat.ble_eq] at hlt
      split at h'
      · rename_i cells e hb
        rw [aN] at h'
        split at h'
        · rename_i hf
          rw [aN] at h'
          split at h'
          · rename_i he
            have := jy he
            subst this
            rcases List.mem_cons.1 hx with rfl | hx
            · obtain ⟨cn, hc⟩ := hg x.1 hlt
              obtain ⟨c, fr, h1, h2, h3, h4, _⟩ := hi.row hb hc
              have h2' : c.size = cn := by simpa using h2
              have h3' : x.2.length ≤ cn := h3
              refine ⟨c, e, fr, h1, by rw [h2']; exact h3', fun i v hv => ?_⟩
              obtain ⟨z, hz, hzv⟩ := h4 i v hv
              simp only [Nat.zero_add] at hz
              exact ⟨z, hz, kX (iq hf v (List.mem_of_getElem? hv)) hzv⟩
            · exact pI hi hg l h' x hx
          · cases h'
        · cases h'
      · cases h'
    · cases h'
noncomputable def Ed (σ : av) (g : Nat) : TypeId :=
  match σ.m.get g with
  | some (.row _ e _) => e
  | _ => 0
theorem r9 {gl : Nat} : ∀ (l : List (Nat × List AV)), hX gl σ l = true → ∀ x ∈ l, σ.m.get x.1 = some (.row x.2 (Ed σ x.1) true)
  | [], _, x, hx => by cases hx
  | y :: l, h, x, hx => by
    have h' : (bif Nat.ble (Nat.succ y.1) gl then (match σ.m.get y.1 with
      | some (.row cells _ true) => bif dz y.2 then (bif gz cells y.2 then hX gl σ l else false) else false
      | _ => false) else false) = true := h
    rw [aN] at h'
    split at h'
    · split at h'
      · rename_i cells e hb
        rw [aN] at h'
        split at h'
        · rw [aN] at h'
          split at h'
          · rename_i he
            have := jy he
            rcases List.mem_cons.1 hx with rfl | hx
            · unfold Ed; rw [hb, this]
            · exact r9 l h' x hx
          · cases h'
        · cases h'
      · cases h'
    · cases h'
theorem zt {e : ME} (ha : HZ P G.gl G.laid e) {f : Nat} {args : List AV} {xs : Array Value} (hh : D3 G.gl G.laid e f args σ = true) (hi : Inv ρ σ w) (hg : GR ρ G) (hx : bX ρ args xs.toList)
    (rl : Option Nat) (m : Nat) {R : Ending → World → Prop} (hR : ∀ (ρ' : bN) (w' : World) (x : Value), Inv ρ' (xg σ e) w' → dA ρ σ w ρ' (xg σ e) w' → VR ρ' e.v x → R (.returned x) w') : CallsIn (gJ rl) m P f xs w R := by
  unfold D3 at hh
  simp only [aN] at hh
  split at hh
  case isFalse => cases hh
  rename_i hf
  split at hh
  case isFalse => cases hh
  rename_i hargs
  split at hh
  case isFalse => cases hh
  rename_i hnext
  split at hh
  case isFalse => cases hh
  rename_i hlaid
  have ef := Nat.eq_of_beq_eq_true hf
  have ea := wM hargs
  have en : σ.next = e.next := Nat.eq_of_beq_eq_true hnext
  subst ef; subst ea
  obtain ⟨hwf, hans⟩ := ha
  have hsub := xp hh
  have hlg := r9 G.laid hlaid
  simp only [H2, Bool.and_eq_true, List.all_eq_true, Nat.ble_eq, Bool.not_eq_true', Bool.or_eq_true, List.any_eq_true] at hwf
  obtain ⟨w1, w2, w3, w4, w5⟩ := hwf
  have hB : ∀ b o, (om G.laid (Ed σ) e).m.get b = some o → σ.m.get b = some o := fun b o h => by
    rcases uV h with ⟨x, hx, rfl, rfl⟩ | ⟨x, hx, rfl, rfl⟩
    · exact hsub x hx
    · exact hlg x hx
  have hBw : ∀ b o, (om G.laid (Ed σ) e).m.get b = some o → o.ro = false → ∃ x ∈ e.l, x.1 = b := fun b o h hro => by
    rcases uV h with ⟨x, hx, h1, _⟩ | ⟨x, hx, _, rfl⟩
    · exact ⟨x, hx, h1⟩
    · cases hro
  have hiBc : tJ ρ (om G.laid (Ed σ) e) w := by
    refine ⟨fun b hb => ?_, hi.cF, fun b o l h1 h2 => hi.obj b o l (hB b o h1) h2, fun b b' o o' l l' h1 h2 h3 h4 => hi.inj b b' o o' l l' (hB b o h1) (hB b' o' h2) h3 h4⟩
    have hb' : σ.next.num ≤ b.num := by rw [en]; exact hb
    have hfr := hi.fresh b hb'
    refine ⟨hfr.1, ?_⟩
    cases h : (om G.laid (Ed σ) e).m.get b with
    | none => rfl
    | some o => rw [hB b o h] at hfr; cases hfr.2
  have hWr : ∀ r, Wr ρ (om G.laid (Ed σ) e) r → Wr ρ σ r := fun r ⟨b, o, l, h1, h2, h3, h4⟩ => ⟨b, o, l, hB b o h1, h2, h3, h4⟩
  have hiB : Inv ρ (om G.laid (Ed σ) e) w := ⟨hiBc, hi.mf.size, hi.mf.same, fun r hr hw => hi.mf.no r hr (hWr r hw)⟩
  refine hans (Ed σ) ρ w xs rl m R hiB hg hx fun ρ' σr w' x hl' hn' ir sr hv => ?_
  have hold : ∀ b o, (xg σ e).m.get b = some o → (∃ x ∈ e.l', x.1 = b ∧ x.2 = o ∧ σr.m.get b = some o ∧ o.ro = false) ∨ ((∀ x ∈ e.l, x.1 ≠ b) ∧ σ.m.get b = some o ∧ b < e.next) := fun b o h => by
    rcases mS h with ⟨x, hx, h1, h2⟩ | ⟨_, h⟩
    · refine .inl ⟨x, hx, h1, h2, ?_, ?_⟩
      · rw [← h1, ← h2]; exact hl' x hx
      · rw [← h2]; exact (w5 x hx).2.2.1
    · obtain ⟨h1, h2⟩ := qL h
      refine .inr ⟨h1, h2, ?_⟩
      apply Classical.byContradiction
      intro hn
      have := hi.fresh b (by rw [en]; exact Nat.not_lt.1 hn)
      rw [h2] at this
      cases this.2
  have hsame : ∀ b, b < e.next → ρ' b = ρ b := fun b hb => sr.ext b hb
  have hplace : ∀ b o lb, (∀ x ∈ e.l, x.1 ≠ b) → σ.m.get b = some o → ρ b = some lb → ¬ Wr ρ (om G.laid (Ed σ) e) lb.cF := fun b o lb h1 h2 h3 ⟨b2, o2, l2, k1, k2, k3, k4⟩ => by
    obtain ⟨x, hx, e2⟩ := hBw b2 o2 k1 k2
    have hne : b ≠ b2 := fun e' => h1 x hx (e2.trans e'.symm)
    have := (hi.inj b b2 o o2 lb l2 h2 (hB b2 o2 k1) h3 k3 k4.symm hne).2
    rw [k2] at this; cases this
  have hle := sr.le hiB
  have fin : tJ ρ' (xg σ e) w' ∧ dA ρ σ w ρ' (xg σ e) w' := by
   refine ⟨⟨fun b hb => ?_, ir.cF, fun b o l h1 h2 => ?_, fun b b' o o' l l' h1 h2 h3 h4 he hne => ?_⟩, ⟨fun b hb => ?_, ?_, sr.size, fun r hr hnw => sr.frame r hr fun hw => hnw (hWr r hw), fun r hw hr => ?_, sr.tape, sr.os, sr.out⟩⟩
   · have hb' : e.next' ≤ b := hb
     refine ⟨(ir.fresh b (by rw [hn']; exact hb')).1, ?_⟩
     cases h : (xg σ e).m.get b with
     | none => rfl
     | some o =>
       rcases hold b o h with ⟨x, hx, h1, _⟩ | ⟨_, _, h3⟩
       · have := (w5 x hx).2.1
         rw [pg, h1] at this
         exact absurd this (Nat.not_lt.2 hb')
       · exact absurd (Nat.lt_of_lt_of_le h3 w2) (Nat.not_lt.2 hb')
   · rcases hold b o h1 with ⟨x, _, _, _, hr, _⟩ | ⟨k1, k2, k3⟩
     · exact ir.obj b o l hr h2
     · rw [hsame b k3] at h2
       obtain ⟨z, hz, hzr⟩ := hi.obj b o l k2 h2
       exact ⟨z, by rw [sr.frame _ (hi.cF b l h2) (hplace b o l k1 k2 h2)]; exact hz, hzr.mono hle⟩
   · have cross : ∀ (b b' : Nat) (o o' : bF) (l l' : Loc), σr.m.get b = some o → o.ro = false → (∀ x ∈ e.l, x.1 ≠ b') → σ.m.get b' = some o' → b' < e.next → ρ' b = some l → ρ' b' = some l' → l.cF = l'.cF → False := fun b b' o o' l l' k1 k2 k3 k4 k5 k6 k7 k8 => by
       rw [hsame b' k5] at k7
       have hlt := hi.cF b' l' k7
       have := sr.wr l.cF ⟨b, o, l, k1, k2, k6, rfl⟩ (by rw [k8]; exact hlt)
       rw [k8] at this
       exact hplace b' o' l' k3 k4 k7 this
     rcases hold b o h1 with ⟨x, _, _, _, hr, hro⟩ | ⟨k1, k2, k3⟩
     · rcases hold b' o' h2 with ⟨x', _, _, _, hr', _⟩ | ⟨k1', k2', k3'⟩
       · exact ir.inj b b' o o' l l' hr hr' h3 h4 he hne
       · exact (cross b b' o o' l l' hr hro k1' k2' k3' h3 h4 he).elim
     · rcases hold b' o' h2 with ⟨x', _, _, _, hr', hro'⟩ | ⟨k1', k2', k3'⟩
       · exact (cross b' b o' o l' l hr' hro' k1 k2 k3 h4 h3 he.symm).elim
       · rw [hsame b k3] at h3
         rw [hsame b' k3'] at h4
         exact hi.inj b b' o o' l l' k2 k2' h3 h4 he hne
   · exact hsame b (by have : b < σ.next := hb; rw [en] at this; exact this)
   · show σ.next ≤ e.next'
     rw [en]; exact w2
   · obtain ⟨b, o, l, h1, h2, h3, rfl⟩ := hw
     rcases hold b o h1 with ⟨x, _, _, _, hr', hro⟩ | ⟨k1, k2, k3⟩
     · exact hWr _ (sr.wr _ ⟨b, o, l, hr', hro, h3, rfl⟩ hr)
     · rw [hsame b k3] at h3
       exact ⟨b, o, l, k2, h2, h3, rfl⟩
  exact hR ρ' w' x (hi.of fin).1 fin.2 hv
theorem tf {gl : Nat} {laid : List (Nat × List AV)} {f : Nat} {args : List AV} : ∀ {mem : List ME} {e : ME}, rT gl laid mem f args σ = some e → e ∈ mem ∧ D3 gl laid e f args σ = true
  | [], e, h => by cases h
  | y :: mem, e, h => by
    have h' : (bif D3 gl laid y f args σ then some y else rT gl laid mem f args σ) = some e := h
    rw [aN] at h'
    split at h'
    · rename_i hh; cases h'; exact ⟨List.mem_cons_self, hh⟩
    · obtain ⟨h1, h2⟩ := tf h'
      exact ⟨List.mem_cons_of_mem _ h1, h2⟩
theorem oJ {ih : fP} (hS : Sound P G ih) {f : Nat} {args : List AV} {xs : Array Value} {σ' : av} {v : AV} (h : iD P G ih f args σ = .ret v σ') (hi : Inv ρ σ w) (hg : GR ρ G) (hx : bX ρ args xs.toList)
    (rl : Option Nat) (m : Nat) {R : Ending → World → Prop} (hR : ∀ (ρ' : bN) (w' : World) (x : Value), Inv ρ' σ' w' → dA ρ σ w ρ' σ' w' → VR ρ' v x → R (.returned x) w') : CallsIn (gJ rl) m P f xs w R := by
  unfold iD at h
  cases hk : G.Cf f args σ with
  | some u =>
    rw [hk] at h
    dsimp only at h
    rw [aN] at h
    split at h
    · rename_i hf
      cases h
      refine oK rl (callsIn_wide.2 ?_)
      refine (hS.cx.Cf f args σ v hk ρ w xs hi hx).mono fun e w' ⟨x, ρ', he, hv, i', s'⟩ => ?_
      subst he
      exact hR ρ' w' x i' s' hv
    · cases h
  | none =>
  rw [hk] at h
  dsimp only at h
  cases ht : G.Ch f args with
  | some u =>
    rw [ht] at h
    dsimp only at h
    rw [aN] at h
    split at h
    · rename_i hf
      simp only [Bool.and_eq_true] at hf
      obtain ⟨hf1, hf2, hf3⟩ := hf
      cases h
      refine oK rl (callsIn_wide.2 ?_)
      refine (hS.cx.Ch f args v ht w xs (GR.size hi hg) ⟨hi.mf.size, hi.mf.same⟩ (pI hi hg _ hf3) (qY hf1 hx)).mono fun e w' ⟨x, he, hv, hk⟩ => ?_
      subst he
      obtain ⟨i', s'⟩ := hk.inv hi
      exact hR ρ w' x i' s' (kX hf2 hv)
    · cases h
  | none =>
    rw [ht] at h
    dsimp only at h
    split at h
    · rename_i e he
      cases h
      obtain ⟨h1, h2⟩ := tf he
      exact zt (hS.cx.mem e h1) h2 hi hg hx rl m hR
    split at h
    · cases h
    rw [aN] at h
    split at h
    · have h := zc h
      unfold mM at h
      rw [aN] at h
      split at h
      · exact j0 hS h hi hg hx rl m hR
      · exact zh hS h hi hg hx rl m hR
    · exact j0 hS h hi hg hx rl m hR
theorem Cz {ih : fP} (hS : Sound P G ih) {f : Nat} {args : List AV} {xs : Array Value} {σ' : av} {v : AV} (h : iD P G ih f args σ = .gf v σ') (hi : Inv ρ σ w) (hg : GR ρ G) (hx : bX ρ args xs.toList)
    (rl : Option Nat) (m : Nat) {R : Ending → World → Prop} (hR : ∀ (ρ' : bN) (w' : World) (x : Value), Inv ρ' σ' w' → dA ρ σ w ρ' σ' w' → VR ρ' v x → R (.panicked [{ v := x, recovered := false }]) w') : CallsIn (gJ rl) m P f xs w R := by
  unfold iD at h
  cases hk : G.Cf f args σ with
  | some u => rw [hk] at h; dsimp only at h; rw [aN] at h; split at h <;> cases h
  | none =>
  rw [hk] at h
  dsimp only at h
  split at h
  · rw [aN] at h
    split at h <;> cases h
  · split at h
    · cases h
    split at h
    · cases h
    rw [aN] at h
    split at h
    · exact absurd h (zE _ _ _)
    · exact uC hS h (fun n h => by cases h) hi hg hx rl m fun ρ' w' E i s ⟨x, hE, hv⟩ => by subst hE; exact hR ρ' w' x i s hv
theorem uK (e : Ex) (hp : xY e = false) : (qc e).isNone = vT e := by cases e <;> first | rfl | cases hp
theorem Hr.EY {e : Ex} {E : Exit} (hp : xY e = false) (h : Hr ρ e E) : E = Ev.EY e := by cases e <;> first | exact h | cases hp
theorem zx {l : Nat} {R : Ending → World → Prop} {e : Ex} (hp : xY e = false) {a : Act} (h : ∃ v w', (Instr.endRound l (qc e)).run P w = .ok v w' ∧ R (.returned v) w') : roundPost P l R (EY e) a w := by
  cases e <;> first | exact h | cases hp
theorem ya {ih : fP} (hS : Sound P G ih) {b : Pos} {l : Loc} {args : List AV} {xs : Array Value} {σ' : av} {v : AV} (h : ma ih b args σ = .ret v σ') (hi : Inv ρ σ w) (hg : GR ρ G) (hx : bX ρ args xs.toList) (hl : ρ b = some l)
    (rl : Option Nat) (m : Nat) {R : Ending → World → Prop} (hR : ∀ (ρ' : bN) (w' : World) (x : Value), Inv ρ' σ' w' → dA ρ σ w ρ' σ' w' → VR ρ' v x → R (.returned x) w') :
    ∃ f tmps assign body, (Instr.yield l.cF xs).run P w = .ok (.round l.cF f tmps assign body) w ∧ RoundIn (gJ rl) m P l.cF f tmps assign body w R := by
  unfold ma at h
  cases hb : σ.m.get b with
  | none => rw [hb] at h; cases h
  | some o =>
  rw [hb] at h
  cases o with
  | loop state pending tmps n params assign body df =>
    dsimp only at h
    cases hp : vH n params args tmps with
    | none => rw [hp] at h; cases h
    | some t =>
    rw [hp] at h
    dsimp only at h
    obtain ⟨x, hh, fn, tmps', l', rfl, hdf, htm⟩ := hi.obj b _ l hb hl
    obtain ⟨hlen, ht⟩ := pA params args tmps t tmps' xs.toList hp htm hx
    refine ⟨fn, _, assign, body, run_yield hh (by simpa using hlen.symm), ?_⟩
    have hfold : ((params.toArray.zip xs).foldl (fun tmps (t, a) => tmps.setIfInBounds t a) tmps') = (params.zip xs.toList).foldl (fun tmps (t, a) => tmps.setIfInBounds t a) tmps' := by
      rw [← Array.foldl_toList, Array.toList_zip]
    refine roundIn_of_wpIn (fO rl _) ?_
    rw [ET]
    dsimp only
    rw [hfold]
    cases hc : ih assign t n [] (some b) σ with
    | err k => rw [hc] at h; cases h
    | ok e t₁ d₁ σ₁ =>
    rw [hc] at h
    cases e with
    | normal =>
      cases d₁ with
      | nil =>
        dsimp only at h
        refine hS.run assign t n [] (some b) σ _ t₁ [] σ₁ hc ρ w _ (some l.cF) m _ hi hg ht rfl ⟨l, hl, rfl⟩ fun ρ₁ w₁ a₁ hi₁ st₁ ht₁ hd₁ E hE => ?_
        have hE : E = .normal := hE
        subst hE
        have hl₁ := st₁.le hi b l hl
        have hg₁ := hg.mono (st₁.le hi)
        show ∃ w₂, _
        cases hb₁ : σ₁.m.get b with
        | none => rw [hb₁] at h; cases h
        | some o₁ =>
        rw [hb₁] at h
        cases o₁ with
        | loop state₁ p₁ tmps₁ n₁ params₁ assign₁ body₁ df₁ =>
          cases state₁ with
          | ready =>
            dsimp only at h
            obtain ⟨x₁, hh₁, fn₁, tmps₁', l₁', rfl, hdf₁, htm₁⟩ := hi₁.obj b _ l hb₁ hl₁
            obtain ⟨inv₂, st₂⟩ := hi₁.putObj (o' := .loop .busy p₁ tmps₁ n₁ params₁ assign₁ body₁ df₁) hb₁ hl₁ rfl rfl (x := .loop { state := .busy, pending := p₁, fn := fn₁, tmps := tmps₁', params := params₁.toArray, assign := assign₁, body := body₁, defers := l₁'.cF }) ⟨fn₁, tmps₁', l₁', rfl, hdf₁, htm₁⟩
            refine ⟨_, run_beginRound hh₁ rfl, ?_⟩
            cases hc₂ : ih body t₁ n [] (some b) (σ₁.setObj b (.loop .busy p₁ tmps₁ n₁ params₁ assign₁ body₁ df₁)) with
            | err k => rw [hc₂] at h; cases h
            | ok e₂ t₂ d₂ σ₂ =>
            rw [hc₂] at h
            cases d₂ with
            | cons _ _ => cases h
            | nil =>
            dsimp only at h
            cases hpan : xY e₂ with
            | true => rw [hpan] at h; cases h
            | false =>
            rw [hpan] at h
            simp only [cond_false] at h
            refine hS.run body t₁ n [] (some b) _ e₂ t₂ [] σ₂ hc₂ ρ₁ _ a₁ (some l.cF) m _ inv₂ hg₁ ht₁ hd₁ ⟨l, hl₁, rfl⟩ fun ρ₃ w₃ a₃ hi₃ st₃ ht₃ hd₃ E hE => ?_
            have hE := hE.EY hpan
            subst hE
            have hl₃ := st₃.le inv₂ b l hl₁
            cases hb₃ : σ₂.m.get b with
            | none => rw [hb₃] at h; cases h
            | some o₃ =>
            rw [hb₃] at h
            cases o₃ with
            | loop state₃ p₃ tmps₃ n₃ params₃ assign₃ body₃ df₃ =>
              dsimp only at h
              cases h
              obtain ⟨x₃, hh₃, fn₃, tmps₃', l₃', rfl, hdf₃, htm₃⟩ := hi₃.obj b _ l hb₃ hl₃
              have hst : (if (qc e₂).isNone then LoopState.ready else .done) = pD e₂ := by cases e₂ <;> first | rfl | cases hpan
              obtain ⟨inv₄, st₄⟩ := hi₃.putObj (o' := .loop (pD e₂) (qc e₂) tmps₃ n₃ params₃ assign₃ body₃ df₃) hb₃ hl₃ rfl rfl
                (x := .loop { state := pD e₂, pending := qc e₂, fn := fn₃, tmps := tmps₃', params := params₃.toArray, assign := assign₃, body := body₃, defers := l₃'.cF }) ⟨fn₃, tmps₃', l₃', rfl, hdf₃, htm₃⟩
              refine zx hpan ⟨.bool (vT e₂), _, ?_, hR ρ₃ _ _ inv₄ (((st₁.trans st₂).trans st₃).trans st₄) (by simp only [VR])⟩
              rw [run_endRound _ hh₃, uK _ hpan]
              have hst' : (if vT e₂ = true then LoopState.ready else .done) = pD e₂ := by rw [← uK _ hpan]; exact hst
              rw [hst']
            | _ => cases h
          | _ => cases h
        | _ => cases h
      | cons _ _ => cases h
    | _ => cases h
  | _ => cases h
theorem Bl {ih : fP} (hS : Sound P G ih) {o : Oper} {r : HR} {res : Result Next} {v : AV} {σ' : av} (hi : Inv ρ σ w) (hg : GR ρ G) (ho : tV P ρ σ w r res) (h : iT P G ih r = .ret v σ') (rl : Option Nat) (m : Nat) {a : Act} {next : Act → World → Prop} {Q : Exit → Act → World → Prop}
    (hn : ∀ (ρ' : bN) (w' : World) (x : Value), Inv ρ' σ' w' → dA ρ σ w ρ' σ' w' → VR ρ' v x → next (a.put o.dst x) w') : o.uponIn (gJ rl) m P a next Q res := by
  cases ho with
  | val hv hi' st =>
    cases h
    rw [Oper.uponIn_value]
    exact hn _ _ _ hi' st hv
  | skip hi' st =>
    cases h
    rw [Oper.uponIn_skip]
    exact hn _ _ _ hi' st iQ
  | enter hv =>
    rw [Oper.uponIn_enter]
    exact ⟨ny rl m, oJ hS h hi hg hv rl _ fun ρ' w' x i s q => hn ρ' w' x i s q⟩
  | round hv hl hr =>
    subst hr
    obtain ⟨f, tmps, assign, body, h1, h2⟩ := ya hS h hi hg hv hl rl (m - 1) (R := fun
      | .returned v, w'' => next (a.put o.dst v) w''
      | .panicked chain, w'' => Q (.panic chain) a w''
      | .outgrown, _ => LetsOut Q) (fun ρ' w' x i s q => hn ρ' w' x i s q)
    rw [h1, Oper.uponIn_round]
    exact ⟨ny rl m, h2⟩
  | gf hv => cases h
theorem yW {ih : fP} {l : Pos} {args : List AV} {v : AV} {σ' : av} : ma ih l args σ ≠ .gf v σ' := by
  intro h
  unfold ma at h
  repeat' (first | (cases h; done) | (rw [aN] at h) | split at h)
theorem Ej {ih : fP} (hS : Sound P G ih) {o : Oper} {r : HR} {res : Result Next} {v : AV} {σ' : av} (hi : Inv ρ σ w) (hg : GR ρ G) (ho : tV P ρ σ w r res) (h : iT P G ih r = .gf v σ') (rl : Option Nat) (m : Nat) {a : Act} {next : Act → World → Prop} {Q : Exit → Act → World → Prop}
    (hn : ∀ (ρ' : bN) (w' : World) (x : Value), Inv ρ' σ' w' → dA ρ σ w ρ' σ' w' → VR ρ' v x → Q (.panic [{ v := x, recovered := false }]) a w') : o.uponIn (gJ rl) m P a next Q res := by
  cases ho with
  | val hv hi' st => cases h
  | skip hi' st => cases h
  | enter hv =>
    rw [Oper.uponIn_enter]
    exact ⟨ny rl m, Cz hS h hi hg hv rl _ fun ρ' w' x i s q => hn ρ' w' x i s q⟩
  | round hv hl hr => exact absurd h yW
  | gf hv =>
    cases h
    rw [Oper.uponIn_panic]
    exact hn _ _ _ hi (dA.refl _ _ _) hv
theorem v8 {ih : fP} {r : HR} {v : AV} {σ' : av} (h : iT P G ih r = .gf v σ') (n : Nat) : r ≠ .err n := by
  intro e; subst e; cases h
theorem Fb {ih : fP} (hS : Sound P G ih) {ev : Operand → Option AV} {o : Oper} {a : Act} {v : AV} {σ' : av} (hi : Inv ρ σ w) (hg : GR ρ G) (hE : ER ρ ev a.eval o.op) (h : iT P G ih (cZ P G ev σ o.op) = .gf v σ') (rl : Option Nat) (m : Nat) {next : Act → World → Prop} {Q : Exit → Act → World → Prop}
    (hn : ∀ (ρ' : bN) (w' : World) (x : Value), Inv ρ' σ' w' → dA ρ σ w ρ' σ' w' → VR ρ' v x → Q (.panic [{ v := x, recovered := false }]) a w') : o.wpIn (gJ rl) m P a w next Q := by
  have hne := v8 h
  refine ⟨fun f _ => fO rl f, ?_⟩
  rw [Oper.semAt_eq _ _ _ (jW hne)]
  exact Ej hS hi hg (lE hS.cx.ov hi hE rfl hne) h rl m hn
theorem x9 {ih : fP} {r : HR} {v : AV} {σ' : av} (h : iT P G ih r = .ret v σ') (n : Nat) : r ≠ .err n := by
  intro e; subst e; cases h
theorem wS {ih : fP} (hS : Sound P G ih) {ev : Operand → Option AV} {o : Oper} {a : Act} {v : AV} {σ' : av} (hi : Inv ρ σ w) (hg : GR ρ G) (hE : ER ρ ev a.eval o.op) (h : iT P G ih (cZ P G ev σ o.op) = .ret v σ') (rl : Option Nat) (m : Nat) {next : Act → World → Prop} {Q : Exit → Act → World → Prop}
    (hn : ∀ (ρ' : bN) (w' : World) (x : Value), Inv ρ' σ' w' → dA ρ σ w ρ' σ' w' → VR ρ' v x → next (a.put o.dst x) w') : o.wpIn (gJ rl) m P a w next Q := by
  have hne := x9 h
  refine ⟨fun f _ => fO rl f, ?_⟩
  rw [Oper.semAt_eq _ _ _ (jW hne)]
  exact Bl hS hi hg (lE hS.cx.ov hi hE rfl hne) h rl m hn
theorem qi {ih : fP} (hS : Sound P G ih) {ops : Array Oper} {n m : Nat} {d : List DE} (rl : Option Nat) {Q : Exit → Act → World → Prop} {e : Ex} {t' : PT AV} {d' : List DE} {σ' : av} :
    ∀ (l : List Oper) (i : Nat), ops.toList.drop i = l → ∀ (t : PT AV) (σ : av) (ρ : bN) (w : World) (a : Act), tX d (pP P G ih ops n d l t σ) = .ok e t' d' σ' → Inv ρ σ w → GR ρ G → TR ρ t n a.tmps → DR ρ d a.defers →
      (∀ (ρ' : bN) (w' : World) (a' : Act), Inv ρ' σ' w' → dA ρ σ w ρ' σ' w' → TR ρ' t' n a'.tmps → DR ρ' d' a'.defers → Qx Q ρ' e a' w') → wpOpsIn (gJ rl) m P ops Q (List.range' i l.length) a w
  | [], i, hl, t, σ, ρ, w, a, h, hi, hg, ht, hd, hQ => by
    have h' : CR.ok .normal t d σ = .ok e t' d' σ' := h
    cases h'
    exact hQ ρ w a hi (dA.refl _ _ _) ht hd _ rfl
  | o :: l, i, hl, t, σ, ρ, w, a, h, hi, hg, ht, hd, hQ => by
    have hoi : ops[i]? = some o := by
      rw [← Array.getElem?_toList]
      have : (ops.toList.drop i)[0]? = some o := by rw [hl]; rfl
      simpa using this
    have hl' : ops.toList.drop (i + 1) = l := by
      rw [← List.drop_drop, hl]; rfl
    have h' : tX d (gg P G ih true ops n o t σ (pP P G ih ops n d l)) = .ok e t' d' σ' := h
    unfold gg at h'
    simp only [List.length_cons, List.range'_succ, wpOpsIn, hoi]
    cases hw : bj ops t o with
    | none => rw [hw] at h'; cases h'
    | some b =>
      rw [hw] at h'
      rw [lQ hw ht]
      cases b with
      | false =>
        dsimp only at h'
        cases hp : cK t n o.dst unit with
        | none => rw [hp] at h'; cases h'
        | some t₁ =>
          rw [hp] at h'
          simp only [Bool.false_eq_true, if_false]
          exact ⟨fun f _ => fO rl f, qi hS rl l (i + 1) hl' t₁ σ ρ w _ h' hi hg (ht.put hp iQ) (by rw [put_defers]; exact hd) hQ⟩
      | true =>
        dsimp only at h'
        cases he : iT P G ih (cZ P G (aX G t) σ o.op) with
        | err k => rw [he] at h'; cases h'
        | gf v σ₁ =>
          rw [he] at h'
          have h' : CR.ok (.gf v) t d σ₁ = .ok e t' d' σ' := h'
          cases h'
          simp only [if_true]
          refine Fb hS hi hg (ur _ hg ht) he rl m fun ρ₁ w₁ x hi₁ st₁ hv => ?_
          have hle := st₁.le hi
          exact hQ ρ₁ w₁ a hi₁ st₁ (ht.mono hle) (hd.mono hle) _ ⟨x, rfl, hv⟩
        | ret v σ₁ =>
          rw [he] at h'
          dsimp only at h'
          cases hp : cK t n o.dst v with
          | none => rw [hp] at h'; cases h'
          | some t₁ =>
            rw [hp] at h'
            simp only [if_true]
            refine wS hS hi hg (ur _ hg ht) he rl m fun ρ₁ w₁ x hi₁ st₁ hv => ?_
            have hle := st₁.le hi
            exact qi hS rl l (i + 1) hl' t₁ σ₁ ρ₁ w₁ _ h' hi₁ (hg.mono hle) ((ht.mono hle).put hp hv) (by rw [put_defers]; exact hd.mono hle)
              fun ρ' w' a' i' s' => hQ ρ' w' a' i' (st₁.trans s')
theorem B8 {o : Oper} (h : AI o = true) : ∃ c, o.op = .defer c := by
  unfold AI at h
  split at h
  · rename_i c hc; exact ⟨c, hc⟩
  · cases h
theorem jB (hov : ∀ g, G.ov g = true → lM P g) {ops : Array Oper} {n m : Nat} {Q : Exit → Act → World → Prop} {e : Ex} {t' : PT AV} {d' : List DE} {σ' : av} :
    ∀ (l : List Oper) (i : Nat), ops.toList.drop i = l → ∀ (d : List DE) (t : PT AV) (σ : av) (ρ : bN) (w : World) (a : Act), FZ P G ops n l d t σ = .ok e t' d' σ' → Inv ρ σ w → GR ρ G → TR ρ t n a.tmps → DR ρ d a.defers →
      (∀ (ρ' : bN) (w' : World) (a' : Act), Inv ρ' σ' w' → dA ρ σ w ρ' σ' w' → TR ρ' t' n a'.tmps → DR ρ' d' a'.defers → Qx Q ρ' e a' w') → wpOpsIn (gJ none) m P ops Q (List.range' i l.length) a w
  | [], i, hl, d, t, σ, ρ, w, a, h, hi, hg, ht, hd, hQ => by
    have h' : CR.ok .normal t d σ = .ok e t' d' σ' := h
    cases h'
    exact hQ ρ w a hi (dA.refl _ _ _) ht hd _ rfl
  | o :: l, i, hl, d, t, σ, ρ, w, a, h, hi, hg, ht, hd, hQ => by
    have hoi : ops[i]? = some o := by
      rw [← Array.getElem?_toList]
      have : (ops.toList.drop i)[0]? = some o := by rw [hl]; rfl
      simpa using this
    have hl' : ops.toList.drop (i + 1) = l := by
      rw [← List.drop_drop, hl]; rfl
    have h' : F6 P G ops n o d t σ (FZ P G ops n l) = .ok e t' d' σ' := h
    unfold F6 at h'
    simp only [List.length_cons, List.range'_succ, wpOpsIn, hoi]
    cases hw : bj ops t o with
    | none => rw [hw] at h'; cases h'
    | some b =>
      rw [hw] at h'
      rw [lQ hw ht]
      cases b with
      | false =>
        dsimp only at h'
        cases hp : cK t n o.dst unit with
        | none => rw [hp] at h'; cases h'
        | some t₁ =>
          rw [hp] at h'
          simp only [Bool.false_eq_true, if_false]
          exact ⟨fun f _ => fO none f, jB hov l (i + 1) hl' d t₁ σ ρ w _ h' hi hg (ht.put hp iQ) (by rw [put_defers]; exact hd) hQ⟩
      | true =>
        dsimp only at h'
        simp only [if_true]
        rw [aN] at h'
        split at h'
        · rename_i hr
          obtain ⟨c, ho⟩ := B8 hr
          rw [ho] at h'
          cases hda : zI P G t (.defer c) with
          | none => rw [hda] at h'; cases h'
          | some de =>
            rw [hda] at h'
            dsimp only at h'
            cases hp : cK t n o.dst unit with
            | none => rw [hp] at h'; cases h'
            | some t₁ =>
              rw [hp] at h'
              unfold zI at hda
              dsimp only at hda
              split at hda
              · rename_i g hcal
                split at hda
                · rename_i u1 u2 q fi ca args hev has
                  cases hda
                  have hv := fc (a := a) hg ht hev
                  simp only [VR] at hv
                  obtain ⟨fi', ca', hf, hfi, hca⟩ := hv
                  have hargs := eP (ρ := ρ) (f := a.eval) has (fun x _ v hv => fc hg ht hv)
                  have hex : (execOp a.eval o).run P w = .ok (.defer { target := .fn (.func q) ca', args := fi' ++ c.args.map a.eval }) w := by
                    simp only [execOp, ho, resolve, hcal, hf, Deferred.ofValue, Sem.run_bind, Sem.run_pure, Result.andThen_ok]
                  refine ⟨fun f _ => fO none f, ?_⟩
                  have hround : (gJ none).round = none := ss none
                  rw [hround, Oper.semAt_none, hex, Oper.uponIn_defer]
                  refine jB hov l (i + 1) hl' _ t₁ σ ρ w _ h' hi hg (TR.put (a := { a with defers := _ }) ht hp iQ) ?_ hQ
                  rw [put_defers]
                  exact ⟨_, _, _, rfl, by rw [cN]; simpa using hfi.append hargs, hca, hd⟩
                · cases hda
              · cases hda
        · cases he : cZ P G (aX G t) σ o.op with
          | val v σ₁ =>
            rw [he] at h'
            dsimp only at h'
            cases hp : cK t n o.dst v with
            | none => rw [hp] at h'; cases h'
            | some t₁ =>
              rw [hp] at h'
              have hne : ∀ n, cZ P G (aX G t) σ o.op ≠ .err n := fun n => by rw [he]; simp
              have ho := lE (P := P) (w := w) (o := o) (f := a.eval) hov hi (ur _ hg ht) he (fun n => by simp)
              refine ⟨fun f _ => fO none f, ?_⟩
              rw [Oper.semAt_eq _ _ _ (jW hne)]
              generalize hq : (execOp a.eval o).run P w = res at ho ⊢
              cases ho with
              | val hv hi₁ st₁ =>
                have hle := st₁.le hi
                rw [Oper.uponIn_value]
                exact jB hov l (i + 1) hl' d t₁ σ₁ _ _ _ h' hi₁ (hg.mono hle) ((ht.mono hle).put hp hv) (by rw [put_defers]; exact hd.mono hle)
                  fun ρ' w' a' i' s' => hQ ρ' w' a' i' (st₁.trans s')
          | skip σ₁ =>
            rw [he] at h'
            dsimp only at h'
            cases hp : cK t n o.dst unit with
            | none => rw [hp] at h'; cases h'
            | some t₁ =>
              rw [hp] at h'
              have hne : ∀ n, cZ P G (aX G t) σ o.op ≠ .err n := fun n => by rw [he]; simp
              have ho := lE (P := P) (w := w) (o := o) (f := a.eval) hov hi (ur _ hg ht) he (fun n => by simp)
              refine ⟨fun f _ => fO none f, ?_⟩
              rw [Oper.semAt_eq _ _ _ (jW hne)]
              generalize hq : (execOp a.eval o).run P w = res at ho ⊢
              cases ho with
              | skip hi₁ st₁ =>
                have hle := st₁.le hi
                rw [Oper.uponIn_skip]
                exact jB hov l (i + 1) hl' d t₁ σ₁ _ _ _ h' hi₁ (hg.mono hle) ((ht.mono hle).put hp iQ) (by rw [put_defers]; exact hd.mono hle)
                  fun ρ' w' a' i' s' => hQ ρ' w' a' i' (st₁.trans s')
          | _ => rw [he] at h'; cases h'
end
theorem tD {P : Program} {σ σ' : av} (he : ∀ (b : Pos) (o : bF), σ.m.get b = some o → σ'.m.get b = some o) {u : Option TypeId} {x : Option AV} {v : AV} (h : ox P u σ x = some v) : ox P u σ' x = some v := by
 unfold ox at h ⊢
 cases x with
 | none => cases h
 | some xv =>
  cases xv with
  | ptr b off =>
   dsimp only at h ⊢
   cases hb : σ.m.get b with
   | none => rw [hb] at h; cases h
   | some o => rw [hb] at h; rw [he b o hb]; exact h
  | _ => cases h
theorem BV {P : Program} {ev : Operand → Option AV} {σ σ' : av} {op : Op} {v : AV} (he : ∀ b o, σ.m.get b = some o → σ'.m.get b = some o) (h : eV P ev σ op = some v) : eV P ev σ' op = some v := by
 cases op with
 | load t x =>
  simp only [eV] at h ⊢
  cases hx : ev x with
  | none => rw [hx] at h; cases h
  | some u =>
   rw [hx] at h
   cases u with
   | ptr b off =>
    dsimp only at h ⊢
    cases hb : σ.m.get b with
    | none => rw [hb] at h; cases h
    | some o => rw [hb] at h; rw [he b o hb]; exact h
   | _ => cases h
 | lookup t x i ok =>
  simp only [eV] at h ⊢
  split at h
  ·rename_i kt et k hu hik
   cases hx : ev x with
   | none => rw [hx] at h; dsimp only at h; rw [aN] at h; split at h <;> cases h
   | some u =>
    rw [hx] at h
    cases u with
    | fx => simpa only [hu, hik] using h
    | map b =>
     dsimp only at h ⊢
     cases hb : σ.m.get b with
     | none => rw [hb] at h; dsimp only at h; rw [aN] at h; split at h <;> cases h
     | some o => rw [hb] at h; rw [he b o hb]; simpa only [hu, hik] using h
    | _ => dsimp only at h; rw [aN] at h; split at h <;> cases h
  ·cases h
 | call c =>
  simp only [eV] at h ⊢
  split at h
  ·rename_i hcal
   split at h
   ·rename_i u1 u2 t x e1 e2
    split at h
    ·rename_i u3 u4 kt et b hu hx
     cases hb : σ.m.get b with
     | none => rw [hb] at h; cases h
     | some o => rw [hb] at h; rw [he b o hb]; exact h
    ·exact h
    ·cases h
   ·cases h
  ·cases h
 | convert src dst x =>
  simp only [eV] at h ⊢
  split at h
  ·rename_i e hs hd
   split at h
   ·rename_i h1 h2; exact h
   ·rename_i b off len cap h1 h2
    rw [aN] at h ⊢
    split at h
    ·rename_i hc; rw [if_pos hc]; exact h
    ·rename_i hc
     rw [if_neg hc]
     cases hb : σ.m.get b with
     | none => rw [hb] at h; cases h
     | some o => rw [hb] at h; rw [he b o hb]; exact h
   ·cases h
  ·split at h
   ·rw [aN] at h ⊢
    split at h
    ·cases h
    ·rename_i hc; rw [if_neg hc]; exact tD he h
   ·cases h
  ·rw [aN] at h ⊢
   split at h
   ·rename_i hc; rw [if_pos hc]; exact tD he h
   ·cases h
  ·cases h
 | _ => exact h
theorem nv {ops : Array Oper} {i j : Nat} : waits ops i j = true ↔ ∃ o, ops[i]? = some o ∧ ∃ e ∈ o.after, Region.binds .any e = true ∧ e.on = j := by
 unfold waits
 cases h : ops[i]? with
 | none => simp
 | some o =>
  simp only [Option.map_some, Option.getD_some, Option.some.injEq, exists_eq_left', Bool.and_eq_true, beq_iff_eq, Array.any_iff_exists]
  constructor
  ·rintro ⟨q, hq, _, _, h1⟩; exact ⟨_, Array.getElem_mem hq, h1⟩
  ·rintro ⟨e, he, h1⟩
   obtain ⟨q, hq, rfl⟩ := Array.getElem_of_mem he
   exact ⟨q, hq, Nat.zero_le _, hq, h1⟩
structure Shape (P : Program) (ops : Array Oper) (A : Array Nat) : Prop where
 dep : ∀ i j, waits ops i j = true → j < ops.size
 nU : ∀ i j, i < ops.size → j < ops.size → nU A i j = true → waits ops i j = true ∨ ∃ d, waits ops i d = true ∧ Ev.nU A d j = true
 uniq : ∀ i j k, dQ ops i = some k → dQ ops j = some k → i = j
 look : ∀ (i : Nat) (o : Oper) (j k : Nat), ops[i]? = some o → dQ ops j = some k → k ∈ slotsOf ops o → Ev.nU A i j = true ∨ (eC P ops i = false ∧ (j = i ∨ Ev.nU A j i = true))
 dst : ∀ (i : Nat) (o : Oper), ops[i]? = some o → eC P ops i = true → ∃ k, o.dst = some k
theorem jJ {ops : Array Oper} {i k : Nat} (h : dQ ops i = some k) : i < ops.size := by
 unfold dQ at h
 cases ho : ops[i]? with
 | none => rw [ho] at h; cases h
 | some o => exact (Array.getElem?_eq_some_iff.1 ho).1
theorem fp {ops : Array Oper} {i : Nat} {o : Oper} (h : ops[i]? = some o) : dQ ops i = o.dst := by simp [dQ, h]
theorem fN (m i : Nat) : hasB m i = m.testBit i := by
 rw [Nat.testBit_eq_decide_div_mod_eq]
 show Nat.beq ((m >>> i) &&& 1) 1 = _
 rw [Nat.and_one_is_mod, Nat.shiftRight_eq_div_pow]
 cases h : Nat.beq (m / 2 ^ i % 2) 1 with
 | true => exact (decide_eq_true (Nat.eq_of_beq_eq_true h)).symm
 | false => exact (decide_eq_false (fun e => by rw [e] at h; cases h)).symm
theorem GG (w : Nat) : Nat.beq (Nat.land w 1) 1 = w.testBit 0 := by
 have := fN w 0
 exact this
theorem re (i j : Nat) : (bit i).testBit j = decide (i = j) := by
 show (1 <<< i).testBit j = _
 rw [Nat.one_shiftLeft, Nat.testBit_two_pow]
theorem ki (m k j : Nat) : (Nat.lor m k).testBit j = (m.testBit j || k.testBit j) := Nat.testBit_or m k j
theorem hJ {j : Nat} : ∀ {l : List Nat}, (kB l).testBit j = true ↔ j ∈ l
 | [] => by simp [kB]
 | i :: l => by
  show (Nat.lor (bit i) (kB l)).testBit j = true ↔ _
  rw [ki, re, Bool.or_eq_true, hJ, List.mem_cons, decide_eq_true_eq]
  exact ⟨fun h => h.imp Eq.symm id, fun h => h.imp Eq.symm id⟩
theorem uZ {m k : Nat} (h : tY m k = true) (j : Nat) (hj : m.testBit j = true) : k.testBit j = true := by
 have e : m &&& k = m := Nat.eq_of_beq_eq_true h
 rw [← e, Nat.testBit_and, Bool.and_eq_true] at hj
 exact hj.2
theorem zp {m k : Nat} (h : tY m k = false) : ∃ j, m.testBit j = true ∧ k.testBit j = false := by
 apply Classical.byContradiction
 intro hn
 have e : m &&& k = m := Nat.eq_of_testBit_eq fun j => by
  rw [Nat.testBit_and]
  cases hm : m.testBit j with
  | false => rfl
  | true =>
   cases hk : k.testBit j with
   | true => rfl
   | false => exact absurd ⟨j, hm, hk⟩ hn
 have : tY m k = true := by
  show Nat.beq (m &&& k) m = true
  rw [e]; exact Nat.beq_refl m
 rw [this] at h; cases h
theorem oc {j : Nat} : ∀ {L : List RA} {w : Nat}, (tw L w).testBit j = true → ∃ d x, L[d]? = some x ∧ w.testBit d = true ∧ x.a.testBit j = true
 | [], w, h => by simp [tw] at h
 | x :: L, w, h => by
  have h' : (Nat.lor (@Bool.rec (fun _ => Nat) 0 x.a (Nat.beq (Nat.land w 1) 1)) (tw L (w >>> 1))).testBit j = true := h
  rw [ki, Bool.or_eq_true, GG] at h'
  rcases h' with h' | h'
  ·cases hw : w.testBit 0 with
   | true => rw [hw] at h'; exact ⟨0, x, rfl, hw, h'⟩
   | false =>
    rw [hw] at h'
    have h'' : (0 : Nat).testBit j = true := h'
    simp at h''
  ·obtain ⟨d, y, h1, h2, h3⟩ := oc h'
   rw [Nat.testBit_shiftRight] at h2
   exact ⟨d + 1, y, by simpa using h1, by rw [Nat.add_comm]; exact h2, h3⟩
theorem pc : ∀ (rows : List Row) (L : List RA), (DQ rows L).map (·.r) = L.map (·.r) ++ rows
 | [], L => by show L.map (·.r) = _; simp
 | r :: rows, L => by
  show (DQ rows (eJ L [⟨r, Nat.lor r.w (tw L r.w)⟩])).map (·.r) = _
  rw [pc rows, cN]
  simp
theorem wu {P : Program} {ops : Array Oper} {i : Nat} {o : Oper} (h : ops[i]? = some o) : ∃ x, (fF P ops)[i]? = some x ∧ x.r = tM P ops o := by
 have e := pc (ub (tM P ops) ops.toList) []
 rw [iV] at e
 have e' : ((fF P ops).map (·.r))[i]? = some (tM P ops o) := by
  unfold fF
  rw [iV, e]
  simp [h]
 rw [List.getElem?_map] at e'
 cases hx : (fF P ops)[i]? with
 | none => rw [hx] at e'; cases e'
 | some x => rw [hx] at e'; exact ⟨x, rfl, by simpa using e'⟩
theorem C7 {P : Program} {ops : Array Oper} {i : Nat} {x : RA} (h : (fF P ops)[i]? = some x) : ∃ o, ops[i]? = some o ∧ x.r = tM P ops o := by
 have e := pc (ub (tM P ops) ops.toList) []
 rw [iV] at e
 have e' : ((fF P ops).map (·.r))[i]? = ops[i]?.map (tM P ops) := by
  unfold fF
  rw [iV, e]
  simp
 rw [List.getElem?_map, h] at e'
 cases ho : ops[i]? with
 | none => rw [ho] at e'; cases e'
 | some o => rw [ho] at e'; exact ⟨o, rfl, by simpa using e'⟩
theorem yu {P : Program} {ops : Array Oper} {i j : Nat} {o : Oper} (h : ops[i]? = some o) : (tM P ops o).w.testBit j = true ↔ waits ops i j = true := by
 rw [nv]
 show (kB _).testBit j = true ↔ _
 rw [hJ, List.mem_filterMap]
 constructor
 ·rintro ⟨e, he, hb⟩
  split at hb
  ·rename_i hb'; cases hb; exact ⟨o, h, e, by simpa using he, hb', rfl⟩
  ·cases hb
 ·rintro ⟨o', ho', e, he, hb, rfl⟩
  rw [h] at ho'; cases ho'
  exact ⟨e, by simpa using he, by rw [if_pos hb]⟩
theorem uW {α : Type} {f : Nat → α → Bool} : ∀ {l : List α} {i : Nat}, allI f l i = true → ∀ (j : Nat) (x : α), l[j]? = some x → f (i + j) x = true
 | [], i, _, j, x, hx => by simp at hx
 | y :: l, i, h, j, x, hx => by
  have h' : @Bool.rec (fun _ => Bool) false (allI f l (i + 1)) (f i y) = true := h
  cases hf : f i y with
  | false => rw [hf] at h'; cases h'
  | true =>
   rw [hf] at h'
   cases j with
   | zero => simp at hx; subst hx; exact hf
   | succ j =>
    have := uW h' j x (by simpa using hx)
    rw [show i + (j + 1) = i + 1 + j by omega]
    exact this
theorem nz {α : Type} {f : Nat → α → Bool} {l : List α} (h : allI f l 0 = true) (j : Nat) (x : α) (hx : l[j]? = some x) : f j x = true := by
 have := uW h j x hx
 rwa [Nat.zero_add] at this
theorem jk {a b : Bool} (h : (bif a then b else false) = true) : a = true ∧ b = true := by cases a <;> simp_all
noncomputable def vO (P : Program) (ops : Array Oper) : Array Nat := ((fF P ops).map (·.a)).toArray
theorem pY {P : Program} {ops : Array Oper} {i j : Nat} {x : RA} (h : (fF P ops)[i]? = some x) : nU (vO P ops) i j = x.a.testBit j := by
 unfold nU vO
 have : (((fF P ops).map (·.a)).toArray).getD i 0 = x.a := by
  rw [Array.getD_eq_getD_getElem?]
  simp [h]
 rw [this]
theorem yq {P : Program} {ops : Array Oper} {i : Nat} {o : Oper} (h : ops[i]? = some o) : gp P ops i = (tM P ops o).h := by unfold gp; rw [h]; rfl
theorem rS {P : Program} {ops : Array Oper} {i : Nat} {o : Oper} (h : ops[i]? = some o) : eC P ops i = (tM P ops o).k := by unfold eC; rw [h]; rfl
theorem yV {i j : Nat} {x y : RA} (h : D7 i x j y = true) (hd : y.r.dm = kB y.r.d.toList) : w0 i x j y = true := by
 unfold D7 at h
 cases hb : Nat.beq (Nat.land (Nat.lor x.r.dm x.r.s) y.r.dm) 0 with
 | false => rw [hb] at h; exact h
 | true =>
  have e : (x.r.dm ||| x.r.s) &&& y.r.dm = 0 := Nat.eq_of_beq_eq_true hb
  unfold w0
  cases hy : y.r.d with
  | none => rfl
  | some k =>
   have hk : y.r.dm.testBit k = true := by rw [hd, hy]; exact hJ.2 (by simp)
   have h0 : ((x.r.dm ||| x.r.s) &&& y.r.dm).testBit k = false := by rw [e]; exact Nat.zero_testBit k
   rw [Nat.testBit_and, hk, Bool.and_true, Nat.testBit_or, Bool.or_eq_false_iff] at h0
   have a1 : hasB x.r.dm k = false := by rw [fN]; exact h0.1
   have a2 : hasB x.r.s k = false := by rw [fN]; exact h0.2
   dsimp only
   rw [a1, a2]
   rfl
theorem CW {P : Program} {ops : Array Oper} (h : Cm (fF P ops) ops.size = true) : Shape P ops (vO P ops) := by
 have key : ∀ i o, ops[i]? = some o → ∃ x, (fF P ops)[i]? = some x ∧ x.r = tM P ops o ∧ x.r.w < 2 ^ ops.size ∧ (x.r.k = true → x.r.d.isSome = true) ∧ tY x.a (Nat.lor x.r.w (tw (fF P ops) x.r.w)) = true ∧
   ∀ j y, (fF P ops)[j]? = some y → w0 i x j y = true := by
  intro i o ho
  obtain ⟨x, hx, hr⟩ := wu (P := P) ho
  have h1 := nz h i x hx
  obtain ⟨k1, h1⟩ := jk h1
  obtain ⟨k2, h1⟩ := jk h1
  obtain ⟨k3, h1⟩ := jk h1
  refine ⟨x, hx, hr, ?_, fun hk => ?_, k3, fun j y hy => yV (nz h1 j y hy) (by obtain ⟨o', _, hr'⟩ := C7 hy; rw [hr']; rfl)⟩
  ·rw [pg] at k1
   have : bit ops.size = 2 ^ ops.size := Nat.one_shiftLeft _
   rw [← this]; exact k1
  ·rw [hk] at k2; exact k2
 have pair : ∀ i o j o' k, ops[i]? = some o → ops[j]? = some o' → o'.dst = some k → (o.dst = some k → j = i) ∧ (k ∈ slotsOf ops o → nU (vO P ops) i j = true ∨ (eC P ops i = false ∧ (j = i ∨ nU (vO P ops) j i = true))) := by
  intro i o j o' k ho ho' hk
  obtain ⟨x, hx, hr, _, _, _, hp⟩ := key i o ho
  obtain ⟨y, hy, hr'⟩ := wu (P := P) ho'
  have h1 := hp j y hy
  unfold w0 at h1
  have hd : y.r.d = some k := by rw [hr']; exact hk
  rw [hd] at h1
  have h1' : (bif (bif hasB x.r.dm k then Nat.beq j i else true) then (bif hasB x.r.s k then (bif hasB x.a j then true else (bif x.r.k then false else (bif Nat.beq j i then true else hasB y.a i))) else true) else false) = true := h1
  obtain ⟨g1, g2⟩ := jk h1'
  refine ⟨fun hd' => ?_, fun hs => ?_⟩
  ·have : hasB x.r.dm k = true := by
    rw [fN, hr]
    show (kB o.dst.toList).testBit k = true
    rw [hJ, hd']; simp
   rw [this] at g1
   exact Nat.eq_of_beq_eq_true g1
  ·have : hasB x.r.s k = true := by
    rw [fN, hr]
    exact hJ.2 hs
   rw [this] at g2
   simp only [cond_true] at g2
   rw [pY hx, pY hy, rS (P := P) ho, ← hr]
   cases ha : hasB x.a j with
   | true => rw [fN] at ha; exact .inl ha
   | false =>
    rw [ha] at g2
    simp only [cond_false] at g2
    cases hk' : x.r.k with
    | true => rw [hk'] at g2; cases g2
    | false =>
     rw [hk'] at g2
     simp only [cond_false] at g2
     cases hb : Nat.beq j i with
     | true => exact .inr ⟨rfl, .inl (Nat.eq_of_beq_eq_true hb)⟩
     | false => rw [hb] at g2; rw [fN] at g2; exact .inr ⟨rfl, .inr g2⟩
 refine ⟨fun i j hw => ?_, fun i j hi hj ha => ?_, fun i j k hi hj => ?_, fun i o j k ho hj hk => ?_, fun i o ho hl => ?_⟩
 ·obtain ⟨o, ho, _⟩ := nv.1 hw
  obtain ⟨x, hx, hr, hlt, _⟩ := key i o ho
  have : x.r.w.testBit j = true := by rw [hr]; exact (yu ho).2 hw
  apply Classical.byContradiction
  intro hn
  rw [Nat.testBit_lt_two_pow (Nat.lt_of_lt_of_le hlt (Nat.pow_le_pow_right (by omega) (by omega)))] at this
  cases this
 ·have ho : ops[i]? = some ops[i] := Array.getElem?_eq_getElem hi
  obtain ⟨x, hx, hr, _, _, hs, _⟩ := key i _ ho
  rw [pY hx] at ha
  have h1 := uZ hs j ha
  rw [ki, Bool.or_eq_true] at h1
  rcases h1 with h1 | h1
  ·rw [hr] at h1; exact .inl ((yu ho).1 h1)
  ·obtain ⟨d, y, hy, h2, h3⟩ := oc h1
   rw [hr] at h2
   exact .inr ⟨d, (yu ho).1 h2, by rw [pY hy]; exact h3⟩
 ·have hi' := jJ hi
  have hj' := jJ hj
  have ho : ops[i]? = some ops[i] := Array.getElem?_eq_getElem hi'
  have ho' : ops[j]? = some ops[j] := Array.getElem?_eq_getElem hj'
  rw [fp ho] at hi
  rw [fp ho'] at hj
  exact ((pair i _ j _ k ho ho' hj).1 hi).symm
 ·have hj' := jJ hj
  have ho' : ops[j]? = some ops[j] := Array.getElem?_eq_getElem hj'
  rw [fp ho'] at hj
  exact (pair i o j _ k ho ho' hj).2 hk
 ·obtain ⟨x, hx, hr, _, hd, _⟩ := key i o ho
  rw [rS (P := P) ho, ← hr] at hl
  have := hd hl
  rw [hr] at this
  exact Option.isSome_iff_exists.1 this
def Ord (ops : Array Oper) : List Nat → Prop
 | [] => True
 | i :: r => (∀ j, waits ops i j = true → j ∈ r) ∧ Ord ops r
structure CG (P : Program) (ops : Array Oper) (A : Array Nat) (i : Nat) (rc : List Nat) (done : List Nat) : Prop where
 lt : i < ops.size
 new : i ∉ done
 dep : ∀ j, waits ops i j = true → j ∈ done
 again : gp P ops i = true → ∀ j ∈ done, eC P ops j = true → nU A i j = true ∨ j ∈ rc
 alone : gp P ops i = true → ∀ j, j < ops.size → j ∉ done → j ≠ i → ∃ e, waits ops j e = true ∧ e ∉ done
def Az (P : Program) (ops : Array Oper) (A : Array Nat) : List (Nat × List Nat) → List Nat → Prop
 | [], done => ∀ i, i < ops.size → i ∈ done
 | (i, rc) :: l, done => CG P ops A i rc done ∧ Az P ops A l (i :: done)
theorem sm {P : Program} {ops : Array Oper} : ∀ (p : List (Nat × List Nat)) (D : Nat) (done : List Nat), (∀ j, D.testBit j = true ↔ j ∈ done) → zb (fF P ops) ops.size p D = true → Az P ops (vO P ops) p done
 | [], D, done, hD, h => fun i hi => by
  have e : D = bit ops.size - 1 := Nat.eq_of_beq_eq_true h
  rw [← hD, e, show bit ops.size = 2 ^ ops.size from Nat.one_shiftLeft _, Nat.testBit_two_pow_sub_one]
  exact decide_eq_true hi
 | (i, rc) :: l, D, done, hD, h => by
  have h' : Option.rec (motive := fun _ => Bool) false (fun x => bif C0 (fF P ops) i rc D x then zb (fF P ops) ops.size l (Nat.lor D (bit i)) else false) (nth (fF P ops) i) = true := h
  rw [dO] at h'
  cases hx : (fF P ops)[i]? with
  | none => rw [hx] at h'; cases h'
  | some x =>
  rw [hx] at h'
  obtain ⟨h1, h2⟩ := jk h'
  obtain ⟨o, ho, hr⟩ := C7 hx
  have hlt := (Array.getElem?_eq_some_iff.1 ho).1
  unfold C0 at h1
  cases hi : hasB D i with
  | true => rw [hi] at h1; cases h1
  | false =>
  rw [hi] at h1
  obtain ⟨hw, h3⟩ := jk h1
  refine ⟨⟨hlt, fun hm => ?_, fun j hj => ?_, fun hh j hj hl => ?_, fun hh j hj hn hne => ?_⟩, sm l _ (i :: done) (fun j => ?_) h2⟩
  ·rw [fN] at hi
   rw [(hD i).2 hm] at hi; cases hi
  ·exact (hD j).1 (uZ hw j (by rw [hr]; exact (yu ho).2 hj))
  ·rw [yq (P := P) ho, ← hr] at hh
   rw [hh] at h3
   have hjlt : ∃ o', ops[j]? = some o' := by
    cases ho' : ops[j]? with
    | some o' => exact ⟨o', rfl⟩
    | none => unfold eC at hl; rw [ho'] at hl; cases hl
   obtain ⟨o', ho'⟩ := hjlt
   obtain ⟨y, hy, hr'⟩ := wu (P := P) ho'
   have h4 := nz h3 j y hy
   have hdj : hasB D j = true := by rw [fN]; exact (hD j).2 hj
   rw [hdj] at h4
   simp only [cond_true] at h4
   rw [pY hx]
   cases ha : hasB x.a j with
   | true => rw [fN] at ha; exact .inl ha
   | false =>
    rw [ha] at h4
    rw [rS (P := P) ho', ← hr'] at hl
    rw [hl] at h4
    simp only [cond_true, cond_false] at h4
    rw [fN] at h4
    exact .inr (hJ.1 h4)
  ·rw [yq (P := P) ho, ← hr] at hh
   rw [hh] at h3
   have ho' : ops[j]? = some ops[j] := Array.getElem?_eq_getElem hj
   obtain ⟨y, hy, hr'⟩ := wu (P := P) ho'
   have h4 := nz h3 j y hy
   have hdj : hasB D j = false := by
    rw [fN]
    cases hb : D.testBit j with
    | false => rfl
    | true => exact absurd ((hD j).1 hb) hn
   rw [hdj] at h4
   simp only [cond_false] at h4
   cases hb : Nat.beq j i with
   | true => exact absurd (Nat.eq_of_beq_eq_true hb) hne
   | false =>
    rw [hb] at h4
    simp only [cond_false] at h4
    cases hsb : tY y.r.w D with
    | true => rw [hsb] at h4; cases h4
    | false =>
     obtain ⟨e, g1, g2⟩ := zp hsb
     rw [hr'] at g1
     exact ⟨e, (yu ho').1 g1, fun hm => by rw [(hD e).2 hm] at g2; cases g2⟩
  ·rw [ki, re, Bool.or_eq_true, hD, List.mem_cons, decide_eq_true_eq]
   exact ⟨fun h => h.elim .inr (fun h => .inl h.symm), fun h => h.elim (fun h => .inr h.symm) .inl⟩
theorem Fi {P : Program} {ops : Array Oper} (h : oS P ops = true) : Shape P ops (vO P ops) ∧ Az P ops (vO P ops) (qg P ops) [] := by
 obtain ⟨h1, h2⟩ := jk h
 exact ⟨CW h1, sm _ 0 [] (fun j => by simp) h2⟩
def Li (listed : Array Bool) (i : Nat) : Prop := listed.getD i false = true
theorem Li.lt {listed : Array Bool} {i : Nat} (h : Li listed i) : i < listed.size := by
 unfold Li at h
 rcases Nat.lt_or_ge i listed.size with h' | h'
 ·exact h'
 ·simp [Array.getD_eq_getD_getElem?, Array.getElem?_eq_none h'] at h
theorem CN {listed : Array Bool} {i : Nat} (hi : i < listed.size) : listed.getD i true = false ↔ ¬ Li listed i := by
 simp [Li, Array.getD_eq_getD_getElem?, hi]
theorem wm {listed : Array Bool} {i j : Nat} (hi : i < listed.size) : Li (listed.setIfInBounds i true) j ↔ j = i ∨ Li listed j := by
 unfold Li
 simp only [Array.getD_eq_getD_getElem?, Array.getElem?_setIfInBounds]
 by_cases e : i = j
 ·subst e; simp [hi]
 ·simp [e, Ne.symm e]
def cF : AV → Option Pos
 | .ptr b _ => some b
 | .slice b _ _ _ => some b
 | .map b => some b
 | _ => none
theorem vN (mk : Mk) (b : Pos) : cF (mk.of b) = some b := by cases mk <;> rfl
def ka (P : Program) (G : Cx) (t : PT AV) (σ : av) (ρ : bN) (lo : Nat) (ti : PT AV) (o : Oper) : Prop :=
 match kindOf P o.op with
 | .pure => ∃ v, cj P (aX G ti) o.op = some v ∧ ∀ k, o.dst = some k → t.get (posOf k) = some v
 | .read => ∃ v, eV P (aX G ti) σ o.op = some v ∧ ∀ k, o.dst = some k → t.get (posOf k) = some v
 | .alloc => ∃ ob mk b, ey P (aX G ti) o.op = some (ob, mk) ∧ σ.m.get b = some ob ∧ ρ b = none ∧ lo ≤ b.num ∧ b.num < σ.next.num ∧ ∀ k, o.dst = some k → t.get (posOf k) = some (mk.of b)
 | .gi => False
def nK (P : Program) (G : Cx) (ops : Array Oper) (A : Array Nat) (t₀ t : PT AV) (σ : av) (ρ : bN) (lo : Nat) (i : Nat) : Prop :=
 ∃ o ti, ops[i]? = some o ∧
  (∀ k ∈ slotsOf ops o, ∀ j, nU A i j = true → dQ ops j = some k → ti.get (posOf k) = t.get (posOf k)) ∧
  (∀ k ∈ slotsOf ops o, (∀ j, dQ ops j = some k → nU A i j = false) → ti.get (posOf k) = t₀.get (posOf k)) ∧
  ∃ bw, bj ops ti o = some bw ∧ (bw = false → ∀ k, o.dst = some k → t.get (posOf k) = some unit) ∧ (bw = true → ka P G t σ ρ lo ti o)
section
variable {P : Program} {G : Cx} {ops : Array Oper} {A : Array Nat} {t₀ t t₁ : PT AV} {σ σ₁ : av} {ρ ρ₁ : bN} {lo i : Nat}
theorem sU {o : Oper} {j : Nat} {want : Bool} {k : Nat} (hg : o.guard = some (j, want)) (hk : (ops[j]?).bind (·.dst) = some k) : k ∈ slotsOf ops o := by
 unfold slotsOf
 rw [hg]
 simp [hk]
theorem vV {o : Oper} {k : Nat} (h : Operand.tmp k ∈ o.op.operands) : k ∈ slotsOf ops o := by
 unfold slotsOf
 refine List.mem_append_left _ (List.mem_filterMap.2 ⟨.tmp k, by simpa using h, rfl⟩)
theorem il {o : Oper} {ti tj : PT AV} (h : ∀ k ∈ slotsOf ops o, ti.get (posOf k) = tj.get (posOf k)) : bj ops ti o = bj ops tj o := by
 unfold bj
 cases hg : o.guard with
 | none => rfl
 | some jw =>
  obtain ⟨j, want⟩ := jw
  dsimp only
  cases hk : (ops[j]?).bind (·.dst) with
  | none => rfl
  | some k => dsimp only; rw [h k (sU hg hk)]
theorem nK.Fp (hp : nK P G ops A t₀ t σ ρ lo i) (h : ∀ k, (dQ ops i = some k ∨ ∃ j, nU A i j = true ∧ dQ ops j = some k) → t₁.get (posOf k) = t.get (posOf k)) : nK P G ops A t₀ t₁ σ ρ lo i := by
 obtain ⟨o, ti, ho, h1, h2, bw, h3, h4, h5⟩ := hp
 have hd : ∀ k, o.dst = some k → t₁.get (posOf k) = t.get (posOf k) := fun k hk => h k (.inl (by rw [fp ho]; exact hk))
 refine ⟨o, ti, ho, fun k hk j ha hj => (h1 k hk j ha hj).trans (h k (.inr ⟨j, ha, hj⟩)).symm, h2, bw, h3, fun hb k hk => (hd k hk).trans (h4 hb k hk), fun hb => ?_⟩
 have := h5 hb
 unfold ka at this ⊢
 split at this
 ·obtain ⟨v, g1, g2⟩ := this; exact ⟨v, g1, fun k hk => (hd k hk).trans (g2 k hk)⟩
 ·obtain ⟨v, g1, g2⟩ := this; exact ⟨v, g1, fun k hk => (hd k hk).trans (g2 k hk)⟩
 ·obtain ⟨ob, mk, b, g1, g2, g3, g4, g5, g6⟩ := this; exact ⟨ob, mk, b, g1, g2, g3, g4, g5, fun k hk => (hd k hk).trans (g6 k hk)⟩
 ·exact this
theorem nK.grow (hp : nK P G ops A t₀ t σ ρ lo i) (h : ∀ b o, σ.m.get b = some o → σ₁.m.get b = some o) (hn : σ.next.num ≤ σ₁.next.num) : nK P G ops A t₀ t σ₁ ρ lo i := by
 obtain ⟨o, ti, ho, h1, h2, bw, h3, h4, h5⟩ := hp
 refine ⟨o, ti, ho, h1, h2, bw, h3, h4, fun hb => ?_⟩
 have := h5 hb
 unfold ka at this ⊢
 split at this
 ·exact this
 ·obtain ⟨v, g1, g2⟩ := this; exact ⟨v, BV h g1, g2⟩
 ·obtain ⟨ob, mk, b, g1, g2, g3, g4, g5, g6⟩ := this; exact ⟨ob, mk, b, g1, h b ob g2, g3, g4, by omega, g6⟩
 ·exact this
theorem nK.Iw (hp : nK P G ops A t₀ t σ ρ lo i) (hs : Shape P ops A) (h : ∀ b, (∃ o k v, ops[i]? = some o ∧ kindOf P o.op = .alloc ∧ dQ ops i = some k ∧ t.get (posOf k) = some v ∧ cF v = some b) → ρ b = none → ρ₁ b = none) : nK P G ops A t₀ t σ ρ₁ lo i := by
 obtain ⟨o, ti, ho, h1, h2, bw, h3, h4, h5⟩ := hp
 refine ⟨o, ti, ho, h1, h2, bw, h3, h4, fun hb => ?_⟩
 have := h5 hb
 unfold ka at this ⊢
 split at this
 ·exact this
 ·exact this
 ·rename_i hk
  obtain ⟨ob, mk, b, g1, g2, g3, g4, g5, g6⟩ := this
  obtain ⟨k, hkd⟩ := hs.dst i o ho (by simp [eC, qn, ho, hk])
  exact ⟨ob, mk, b, g1, g2, h b ⟨o, k, _, ho, hk, by rw [fp ho]; exact hkd, g6 k hkd, vN mk b⟩ g3, g4, g5, g6⟩
 ·exact this
theorem nK.again (hp : nK P G ops A t₀ t σ ρ lo i) (hs : Shape P ops A) (h : ∀ k, (dQ ops i = some k ∨ ∃ j, nU A i j = true ∧ dQ ops j = some k) → t₁.get (posOf k) = t.get (posOf k))
  (h0 : ∀ k, (∀ j, dQ ops j ≠ some k) → t₁.get (posOf k) = t₀.get (posOf k)) (hstill : eC P ops i = true → gj P G ops t₁ σ₁ i = true)
  (hr : ∀ b : Pos, b.num < σ.next.num → ρ₁ b = ρ b) (hn : σ.next.num ≤ σ₁.next.num) : nK P G ops A t₀ t₁ σ₁ ρ₁ lo i := by
 have hp₁ := hp.Fp h
 obtain ⟨o, ti, ho, h1, h2, bw, h3, h4, h5⟩ := hp₁
 cases hb : bw with
 | false => exact ⟨o, ti, ho, h1, h2, bw, h3, h4, fun hb' => absurd hb' (by rw [hb]; simp)⟩
 | true =>
  have hv := h5 hb
  subst hb
  cases hk : kindOf P o.op with
  | pure =>
   refine ⟨o, ti, ho, h1, h2, true, h3, h4, fun _ => ?_⟩
   unfold ka at hv ⊢
   rw [hk] at hv ⊢
   exact hv
  | gi => unfold ka at hv; rw [hk] at hv; exact hv.elim
  | read =>
   have hl : eC P ops i = true := by simp [eC, qn, ho, hk]
   have hsl : ∀ k ∈ slotsOf ops o, t₁.get (posOf k) = ti.get (posOf k) := fun k hks => by
    by_cases hw : ∃ j, dQ ops j = some k
    ·obtain ⟨j, hj⟩ := hw
     rcases hs.look i o j k ho hj hks with ha | ⟨hno, _⟩
     ·exact (h1 k hks j ha hj).symm
     ·rw [hl] at hno; cases hno
    ·rw [h0 k (fun j hj => hw ⟨j, hj⟩), h2 k hks (fun j hj => absurd ⟨j, hj⟩ hw)]
   have hst := hstill hl
   unfold gj at hst
   rw [ho] at hst
   dsimp only at hst
   rw [il hsl, h3] at hst
   dsimp only at hst
   refine ⟨o, t₁, ho, fun _ _ _ _ _ => rfl, fun k hks hj => (hsl k hks).trans (h2 k hks hj), true, by rw [il hsl]; exact h3, fun h' => (by cases h'), fun _ => ?_⟩
   unfold ka
   rw [hk]
   split at hst
   ·rename_i k hkd
    split at hst
    ·rename_i v hvk
     rw [hk] at hst
     dsimp only at hst
     split at hst
     ·rename_i u hu
      have := rE hst
      subst this
      exact ⟨u, hu, fun k' hk' => by rw [hkd] at hk'; cases hk'; exact hvk⟩
     ·cases hst
    ·cases hst
   ·cases hst
  | alloc =>
   have hl : eC P ops i = true := by simp [eC, qn, ho, hk]
   have hsl : ∀ k ∈ slotsOf ops o, t₁.get (posOf k) = ti.get (posOf k) := fun k hks => by
    by_cases hw : ∃ j, dQ ops j = some k
    ·obtain ⟨j, hj⟩ := hw
     rcases hs.look i o j k ho hj hks with ha | ⟨hno, _⟩
     ·exact (h1 k hks j ha hj).symm
     ·rw [hl] at hno; cases hno
    ·rw [h0 k (fun j hj => hw ⟨j, hj⟩), h2 k hks (fun j hj => absurd ⟨j, hj⟩ hw)]
   have hst := hstill hl
   unfold gj at hst
   rw [ho] at hst
   dsimp only at hst
   rw [il hsl, h3] at hst
   dsimp only at hst
   refine ⟨o, t₁, ho, fun _ _ _ _ _ => rfl, fun k hks hj => (hsl k hks).trans (h2 k hks hj), true, by rw [il hsl]; exact h3, fun h' => (by cases h'), fun _ => ?_⟩
   unfold ka at hv ⊢
   rw [hk] at hv ⊢
   dsimp only at hv ⊢
   obtain ⟨ob, mk, b, g1, g2, g3, g4, g5, g6⟩ := hv
   split at hst
   ·rename_i k hkd
    have g6' := g6 k hkd
    rw [g6'] at hst
    dsimp only at hst
    rw [hk] at hst
    dsimp only at hst
    have hrb : ρ₁ b = none := by rw [hr b g5]; exact g3
    split at hst
    ·rename_i cs e b' ha hvb
     split at hst
     ·rename_i cs' e' hbb
      rw [Bool.and_eq_true] at hst
      have e1 := Nat.eq_of_beq_eq_true hst.1
      have e2 := nD hst.2
      subst e1; subst e2
      have hbb' : b' = b := by cases mk <;> simp [Mk.of] at hvb <;> exact hvb.symm
      have hmk : mk = .ptr := by cases mk <;> simp [Mk.of] at hvb <;> rfl
      subst hbb'; subst hmk
      exact ⟨_, _, b', ha, hbb, hrb, g4, by omega, g6⟩
     ·cases hst
    ·rename_i cs e n c b' n' c' ha hvb
     split at hst
     ·rename_i cs' e' hbb
      simp only [Bool.and_eq_true] at hst
      have e1 := Nat.eq_of_beq_eq_true hst.1.1.1
      have e2 := nD hst.1.1.2
      have e3 := Nat.eq_of_beq_eq_true hst.1.2
      have e4 := Nat.eq_of_beq_eq_true hst.2
      subst e1; subst e2; subst e3; subst e4
      have hmk : b' = b ∧ mk = .slice n c := by cases mk <;> simp [Mk.of] at hvb <;> (obtain ⟨q1, q2, q3⟩ := hvb; subst q1; subst q2; subst q3; exact ⟨rfl, rfl⟩)
      obtain ⟨rfl, rfl⟩ := hmk
      exact ⟨_, _, b', ha, hbb, hrb, g4, by omega, g6⟩
     ·cases hst
    ·cases hst
   ·cases hst
end
theorem jl {t t₁ : PT AV} {n : Nat} {dst : Option Nat} {v : AV} (h : cK t n dst v = some t₁) :
  (∀ k, dst ≠ some k → t₁.get (posOf k) = t.get (posOf k)) ∧ (∀ k, dst = some k → k < n ∧ t₁.get (posOf k) = some v) := by
 cases dst with
 | none => cases h; exact ⟨fun _ _ => rfl, fun k hk => by cases hk⟩
 | some j =>
  obtain ⟨hj, rfl⟩ := nw h
  refine ⟨fun k hk => PT.cy _ _ _ _ (fun e => hk (by rw [nF e])), fun k hk => ?_⟩
  cases hk
  exact ⟨hj, PT.cD _ _ _⟩
theorem CQ {a : Act} {dst : Option Tmp} {x : Value} : (∀ k, dst ≠ some k → (a.put dst x).tmps.getD k undef = a.tmps.getD k undef) ∧ (∀ k, dst = some k → k < a.tmps.size → (a.put dst x).tmps.getD k undef = x) ∧ (a.put dst x).tmps.size = a.tmps.size := by
 cases dst with
 | none => exact ⟨fun _ _ => rfl, (fun k hk => by cases hk), rfl⟩
 | some j =>
  refine ⟨fun k hk => ?_, fun k hk hlt => ?_, by simp [Act.put]⟩
  ·have : j ≠ k := fun e => hk (by rw [e])
   simp [Act.put, Array.getD_eq_getD_getElem?, Array.getElem?_setIfInBounds, this]
  ·cases hk
   simp [Act.put, Array.getD_eq_getD_getElem?, Array.getElem?_setIfInBounds, hlt]
theorem bT {α : Type} {x y : α} {l : List α} (h : x ∈ y :: l) : x = y ∨ x ∈ l := List.mem_cons.1 h
structure J (P : Program) (G : Cx) (ih : fP) (ops : Array Oper) (A : Array Nat) (n : Nat) (d : List DE) (fin : CR) (ρ₀ : bN) (σ₀ : av) (w₀ : World) (t₀ : PT AV)
  (l : List (Nat × List Nat)) (done : List Nat) (t : PT AV) (σ : av) (listed : Array Bool) (ρ : bN) (w : World) (a : Act) : Prop where
 run : gO P G ih ops n d l t σ = fin
 ok : Az P ops A l done
 inv : Inv ρ σ w
 FC : dA ρ₀ σ₀ w₀ ρ σ w
 dr : DR ρ d a.defers
 gr : GR ρ G
 Fx : a.tmps.size = n
 Eb : listed.size = ops.size
 Gt : ∀ i ∈ done, i < ops.size
 ord : Ord ops done
 sub : ∀ i, Li listed i → i ∈ done
 gi : ∀ i ∈ done, gp P ops i = true → Li listed i
 closed : ∀ i j, j < ops.size → Li listed i → nU A i j = true → Li listed j
 iU : ∀ i j, j < ops.size → i ∈ done → nU A i j = true → j ∈ done
 GO : ∀ i ∈ done, ∀ k, dQ ops i = some k → k < n
 xx : ∀ i k v, Li listed i → dQ ops i = some k → t.get (posOf k) = some v → VR ρ v (a.tmps.getD k undef)
 xr : ∀ k v, (∀ i, Li listed i → dQ ops i ≠ some k) → t₀.get (posOf k) = some v → k < n ∧ VR ρ v (a.tmps.getD k undef)
 same : ∀ k, (∀ i ∈ done, dQ ops i ≠ some k) → t.get (posOf k) = t₀.get (posOf k)
 yl : ∀ i ∈ done, ¬ Li listed i → nK P G ops A t₀ t σ ρ σ₀.next.num i
 apart : ∀ i j o o' k k' v v' b, i ∈ done → j ∈ done → ¬ Li listed i → ¬ Li listed j → ops[i]? = some o → ops[j]? = some o' → kindOf P o.op = .alloc → kindOf P o'.op = .alloc →
  dQ ops i = some k → dQ ops j = some k' → t.get (posOf k) = some v → t.get (posOf k') = some v' → cF v = some b → cF v' = some b → i = j
section
variable {P : Program} {G : Cx} {ih : fP} {ops : Array Oper} {A : Array Nat} {n : Nat} {d : List DE} {fin : CR} {ρ₀ : bN} {σ₀ : av} {w₀ : World} {t₀ : PT AV}
variable {l : List (Nat × List Nat)} {done : List Nat} {t : PT AV} {σ : av} {listed : Array Bool} {ρ : bN} {w : World} {a : Act}
theorem sb (hs : Shape P ops A) {i : Nat} (hi : i < ops.size) (hw : ∀ j, waits ops i j = true → j ∈ done) (hd : ∀ i j, j < ops.size → i ∈ done → nU A i j = true → j ∈ done) : ∀ j, j < ops.size → nU A i j = true → j ∈ done := fun j hj ha => by
 rcases hs.nU i j hi hj ha with h | ⟨q, h1, h2⟩
 ·exact hw j h
 ·exact hd q j hj (hw q h1) h2
theorem sP (hs : Shape P ops A) {i : Nat} (hi : i < ops.size) (hw : ∀ j, waits ops i j = true → Li listed j) (hd : ∀ i j, j < ops.size → Li listed i → nU A i j = true → Li listed j) : ∀ j, j < ops.size → nU A i j = true → Li listed j := fun j hj ha => by
 rcases hs.nU i j hi hj ha with h | ⟨q, h1, h2⟩
 ·exact hw j h
 ·exact hd q j hj (hw q h1) h2
theorem J.r6 (hs : Shape P ops A) (hj : J P G ih ops A n d fin ρ₀ σ₀ w₀ t₀ l done t σ listed ρ w a) {i : Nat} {o : Oper} (ho : ops[i]? = some o) (hn : i ∉ done) :
  ∀ k ∈ slotsOf ops o, (∀ j, dQ ops j = some k → nU A i j = false) → t.get (posOf k) = t₀.get (posOf k) := fun k hk hno => by
 refine hj.same k fun j hjd hjk => ?_
 rcases hs.look i o j k ho hjk hk with h | ⟨_, h | h⟩
 ·rw [hno j hjk] at h; cases h
 ·subst h; exact hn hjd
 ·exact hn (hj.iU j i (Array.getElem?_eq_some_iff.1 ho).1 hjd h)
theorem J.look (hs : Shape P ops A) (hj : J P G ih ops A n d fin ρ₀ σ₀ w₀ t₀ l done t σ listed ρ w a) {i : Nat} {o : Oper} {ti : PT AV} (ho : ops[i]? = some o) (hn : ¬ Li listed i) (hr : ∀ j, j < ops.size → nU A i j = true → Li listed j)
  (h1 : ∀ k ∈ slotsOf ops o, ∀ j, nU A i j = true → dQ ops j = some k → ti.get (posOf k) = t.get (posOf k)) (h2 : ∀ k ∈ slotsOf ops o, (∀ j, dQ ops j = some k → nU A i j = false) → ti.get (posOf k) = t₀.get (posOf k)) :
  ∀ k ∈ slotsOf ops o, ∀ v, ti.get (posOf k) = some v → k < n ∧ VR ρ v (a.tmps.getD k undef) := fun k hk v hv => by
 by_cases hw : ∃ j, dQ ops j = some k ∧ nU A i j = true
 ·obtain ⟨j, hjk, ha⟩ := hw
  have hL := hr j (jJ hjk) ha
  rw [h1 k hk j ha hjk] at hv
  exact ⟨hj.GO j (hj.sub j hL) k hjk, hj.xx j k v hL hjk hv⟩
 ·have hno : ∀ j, dQ ops j = some k → nU A i j = false := fun j hjk => by
   cases h : nU A i j with
   | false => rfl
   | true => exact absurd ⟨j, hjk, h⟩ hw
  rw [h2 k hk hno] at hv
  refine hj.xr k v (fun j hL hjk => ?_) hv
  rcases hs.look i o j k ho hjk hk with h | ⟨_, h | h⟩
  ·rw [hno j hjk] at h; cases h
  ·subst h; exact hn hL
  ·exact hn (hj.closed j i (Array.getElem?_eq_some_iff.1 ho).1 hL h)
theorem Aa {ti : PT AV} {o : Oper} (hg : GR ρ G) (h : ∀ k ∈ slotsOf ops o, ∀ v, ti.get (posOf k) = some v → k < n ∧ VR ρ v (a.tmps.getD k undef)) : ER ρ (aX G ti) a.eval o.op := fun x hx v hv => by
 cases x with
 | tmp k => exact (h k (vV hx) v hv).2
 | const c => exact fc (t := .leaf) (n := a.tmps.size) hg ⟨rfl, fun k v hk => by rw [PT.jt] at hk; cases hk⟩ hv
 | global g => exact fc (t := .leaf) (n := a.tmps.size) hg ⟨rfl, fun k v hk => by rw [PT.jt] at hk; cases hk⟩ hv
 | func f => exact fc (t := .leaf) (n := a.tmps.size) hg ⟨rfl, fun k v hk => by rw [PT.jt] at hk; cases hk⟩ hv
theorem q7 {ti : PT AV} {o : Oper} {b : Bool} (hsz : a.tmps.size = n) (h : ∀ k ∈ slotsOf ops o, ∀ v, ti.get (posOf k) = some v → k < n ∧ VR ρ v (a.tmps.getD k undef)) (hw : bj ops ti o = some b) : Region.wanted o (yielded ops a.tmps) = b :=
 ug hw fun j want k hg hk v hv => by
  have := h k (sU hg hk) v hv
  rw [hsz]; exact this
theorem J.ahead (hs : Shape P ops A) {i : Nat} {rc : List Nat} (hj : J P G ih ops A n d fin ρ₀ σ₀ w₀ t₀ ((i, rc) :: l) done t σ listed ρ w a) (hl : gp P ops i = false) {o : Oper} (ho : ops[i]? = some o) {v : AV} {t₁ : PT AV} {σ₁ : av}
  (hp : cK t n o.dst v = some t₁) (hrun : gO P G ih ops n d l t₁ σ₁ = fin) (hinv : Inv ρ σ₁ w) (hst : dA ρ σ w ρ σ₁ w) (hget : ∀ b o, σ.m.get b = some o → σ₁.m.get b = some o)
  (hblk : ∀ b, cF v = some b → kindOf P o.op = .alloc → σ.next.num ≤ b.num) (hpend : nK P G ops A t₀ t₁ σ₁ ρ σ₀.next.num i) : J P G ih ops A n d fin ρ₀ σ₀ w₀ t₀ l (i :: done) t₁ σ₁ listed ρ w a := by
 obtain ⟨hh, hok⟩ := hj.ok
 obtain ⟨f1, f2⟩ := jl hp
 have hdi : dQ ops i = o.dst := fp ho
 have hnL : ¬ Li listed i := fun h => hh.new (hj.sub i h)
 have hother : ∀ j ∈ done, ∀ k, dQ ops j = some k → t₁.get (posOf k) = t.get (posOf k) := fun j hjd k hk => f1 k fun e => by
  have := hs.uniq i j k (by rw [hdi]; exact e) hk
  subst this; exact hh.new hjd
 have hpend' : ∀ j ∈ done, ¬ Li listed j → nK P G ops A t₀ t₁ σ₁ ρ σ₀.next.num j := fun j hjd hjl => by
  refine ((hj.yl j hjd hjl).Fp fun k hk => ?_).grow hget hst.next
  rcases hk with hk | ⟨q, hq, hk⟩
  ·exact hother j hjd k hk
  ·exact hother q (hj.iU j q (jJ hk) hjd hq) k hk
 have hfar : ∀ j o' k' v' b, j ∈ done → ¬ Li listed j → ops[j]? = some o' → kindOf P o'.op = .alloc → dQ ops j = some k' → t₁.get (posOf k') = some v' → cF v' = some b → b.num < σ.next.num := fun j o' k' v' b hjd hjl ho' hk hd hv hb => by
  obtain ⟨o'', ti, e, _, _, bw, _, h4, h5⟩ := hj.yl j hjd hjl
  rw [ho'] at e; cases e
  rw [hother j hjd k' hd] at hv
  rw [fp ho'] at hd
  cases bw with
  | false => rw [h4 rfl k' hd] at hv; cases hv; cases hb
  | true =>
   have := h5 rfl
   unfold ka at this
   rw [hk] at this
   obtain ⟨ob, mk, b', g1, g2, g3, g4, g5, g6⟩ := this
   rw [g6 k' hd] at hv; cases hv
   rw [vN] at hb; cases hb
   exact g5
 refine ⟨hrun, hok, hinv, hj.FC.trans hst, hj.dr, hj.gr, hj.Fx, hj.Eb, fun j h => ?_, ⟨hh.dep, hj.ord⟩, fun j h => List.mem_cons_of_mem _ (hj.sub j h), fun j h hv => ?_, hj.closed, fun j q hq h ha => ?_, fun j h k hk => ?_, fun j k u hL hk hu => ?_, hj.xr, fun k hk => ?_, fun j h hjl => ?_, ?_⟩
 ·rcases bT h with rfl | h
  ·exact hh.lt
  ·exact hj.Gt j h
 ·rcases bT h with rfl | h
  ·rw [hl] at hv; cases hv
  ·exact hj.gi j h hv
 ·rcases bT h with rfl | h
  ·exact List.mem_cons_of_mem _ (sb hs hh.lt hh.dep hj.iU q hq ha)
  ·exact List.mem_cons_of_mem _ (hj.iU j q hq h ha)
 ·rcases bT h with rfl | h
  ·exact (f2 k (by rw [← hdi]; exact hk)).1
  ·exact hj.GO j h k hk
 ·rw [hother j (hj.sub j hL) k hk] at hu
  exact hj.xx j k u hL hk hu
 ·rw [f1 k (fun e => hk i (List.mem_cons_self ..) (by rw [hdi]; exact e))]
  exact hj.same k fun j h => hk j (List.mem_cons_of_mem _ h)
 ·rcases bT h with rfl | h
  ·exact hpend
  ·exact hpend' j h hjl
 ·intro j q o' o'' k k' u u' b h1 h2 h3 h4 h5 h6 h7 h8 h9 h10 h11 h12 h13 h14
  rcases bT h1 with rfl | m1 <;> rcases bT h2 with rfl | m2
  ·rfl
  ·rw [ho] at h5; cases h5
   have := hfar q o'' k' u' b m2 h4 h6 h8 h10 h12 h14
   have e := (f2 k (by rw [← hdi]; exact h9)).2
   rw [e] at h11; cases h11
   have := hblk b h13 h7
   omega
  ·rw [ho] at h6; cases h6
   have := hfar j o' k u b m1 h3 h5 h7 h9 h11 h13
   have e := (f2 k' (by rw [← hdi]; exact h10)).2
   rw [e] at h12; cases h12
   have := hblk b h14 h8
   omega
  ·rw [hother j m1 k h9] at h11
   rw [hother q m2 k' h10] at h12
   exact hj.apart j q o' o'' k k' u u' b m1 m2 h3 h4 h5 h6 h7 h8 h9 h10 h11 h12 h13 h14
theorem Inv.zJ (hi : Inv ρ σ w) (ob : bF) : tJ ρ (σ.alloc ob) w ∧ dA ρ σ w ρ (σ.alloc ob) w ∧ ∀ b o, σ.m.get b = some o → (σ.alloc ob).m.get b = some o := by
 have hnone : ρ σ.next = none := (hi.fresh _ (Nat.le_refl _)).1
 have hget : ∀ b, b ≠ σ.next → (σ.alloc ob).m.get b = σ.m.get b := fun b hb => PT.cy _ _ _ _ hb
 have back : ∀ b o l, (σ.alloc ob).m.get b = some o → ρ b = some l → σ.m.get b = some o := fun b o l h hl => by
  by_cases e : b = σ.next
  ·subst e; rw [hnone] at hl; cases hl
  ·rw [hget b e] at h; exact h
 refine ⟨⟨fun b hb => ?_, hi.cF, fun b o l h hl => hi.obj b o l (back b o l h hl) hl, fun b b' o o' l l' h1 h2 h3 h4 => hi.inj b b' o o' l l' (back b o l h1 h3) (back b' o' l' h2 h4) h3 h4⟩, ⟨fun _ _ => rfl, ?_, Nat.le_refl _, fun _ _ _ => rfl, ?_, rfl, rfl, rfl⟩, fun b o h => ?_⟩
 ·have hb' : σ.next.num + 1 ≤ b.num := by simpa [av.alloc, Pos.fK] using hb
  have hne : b ≠ σ.next := fun e => by subst e; omega
  rw [hget b hne]
  exact hi.fresh b (by omega)
 ·simp [av.alloc, Pos.fK]
 ·rintro r ⟨b, o, l, h1, h2, h3, rfl⟩ _
  exact ⟨b, o, l, back b o l h1 h3, h2, h3, rfl⟩
 ·by_cases e : b = σ.next
  ·subst e; rw [(hi.fresh _ (Nat.le_refl _)).2] at h; cases h
  ·rw [hget b e]; exact h
theorem Inv.ahead (hi : Inv ρ σ w) (ob : bF) : Inv ρ (σ.alloc ob) w ∧ dA ρ σ w ρ (σ.alloc ob) w ∧ ∀ b o, σ.m.get b = some o → (σ.alloc ob).m.get b = some o :=
 let ⟨h1, h2, h3⟩ := hi.zJ ob; ⟨⟨h1, hi.mf.of h2⟩, h2, h3⟩
theorem av.Cd (σ : av) (ob : bF) : (σ.alloc ob).m.get σ.next = some ob := PT.cD _ _ _
theorem J.Hp (hs : Shape P ops A) {i : Nat} {rc : List Nat} (hj : J P G ih ops A n d fin ρ₀ σ₀ w₀ t₀ ((i, rc) :: l) done t σ listed ρ w a) (hl : gp P ops i = false) (hfin : ∀ k, fin ≠ .err k) :
  ∃ t₁ σ₁, J P G ih ops A n d fin ρ₀ σ₀ w₀ t₀ l (i :: done) t₁ σ₁ listed ρ w a := by
 obtain ⟨hh, hok⟩ := hj.ok
 obtain ⟨o, ho⟩ : ∃ o, ops[i]? = some o := ⟨ops[i]'hh.lt, Array.getElem?_eq_getElem hh.lt⟩
 have hrun : (match ops[i]? with
   | some o => gg P G ih false ops n o t σ (fun t' σ' => bif cH P G ops t' σ' rc then gO P G ih ops n d l t' σ' else .err 86)
   | none => .err 87) = fin := hj.run
 rw [ho] at hrun
 dsimp only at hrun
 have hhead := hj.r6 hs ho hh.new
 have hcont : ∀ t₁ σ₁, (bif cH P G ops t₁ σ₁ rc then gO P G ih ops n d l t₁ σ₁ else .err 86) = fin → gO P G ih ops n d l t₁ σ₁ = fin := fun t₁ σ₁ h => by
  rw [aN] at h
  split at h
  ·exact h
  ·exact absurd h.symm (hfin 86)
 have hanc : ∀ {v : AV} {t₁ : PT AV}, cK t n o.dst v = some t₁ → ∀ k ∈ slotsOf ops o, ∀ j, nU A i j = true → dQ ops j = some k → t.get (posOf k) = t₁.get (posOf k) := fun hp k hk j ha hjk => by
  refine ((jl hp).1 k fun e => ?_).symm
  have := hs.uniq i j k (by rw [fp ho]; exact e) hjk
  subst this
  exact hh.new (sb hs hh.lt hh.dep hj.iU i hh.lt ha)
 unfold gg at hrun
 cases hw : bj ops t o with
 | none => rw [hw] at hrun; exact absurd hrun.symm (hfin 85)
 | some bw =>
  rw [hw] at hrun
  cases bw with
  | false =>
   dsimp only at hrun
   cases hp : cK t n o.dst unit with
   | none => rw [hp] at hrun; exact absurd hrun.symm (hfin 84)
   | some t₁ =>
    rw [hp] at hrun
    refine ⟨t₁, σ, hj.ahead hs hl ho hp (hcont _ _ hrun) hj.inv (dA.refl _ _ _) (fun _ _ h => h) (fun b hb => by cases hb) ?_⟩
    exact ⟨o, t, ho, hanc hp, hhead, false, hw, fun _ k hk => ((jl hp).2 k hk).2, fun h => by cases h⟩
  | true =>
   dsimp only at hrun
   have main : ∀ (v : AV) (σ₁ : av), iT P G ih (cZ P G (aX G t) σ o.op) = .ret v σ₁ → Inv ρ σ₁ w → dA ρ σ w ρ σ₁ w → (∀ b o, σ.m.get b = some o → σ₁.m.get b = some o) →
     (∀ b, cF v = some b → kindOf P o.op = .alloc → σ.next.num ≤ b.num) → (∀ t₁, (∀ k, o.dst = some k → t₁.get (posOf k) = some v) → ka P G t₁ σ₁ ρ σ₀.next.num t o) →
     ∃ t₁ σ₁, J P G ih ops A n d fin ρ₀ σ₀ w₀ t₀ l (i :: done) t₁ σ₁ listed ρ w a := by
    intro v σ₁ he hinv hst hget hblk hpv
    rw [he] at hrun
    dsimp only at hrun
    cases hp : cK t n o.dst v with
    | none => rw [hp] at hrun; exact absurd hrun.symm (hfin 80)
    | some t₁ =>
     rw [hp] at hrun
     refine ⟨t₁, σ₁, hj.ahead hs hl ho hp (hcont _ _ hrun) hinv hst hget hblk ?_⟩
     exact ⟨o, t, ho, hanc hp, hhead, true, hw, fun h => (by cases h), fun _ => hpv t₁ fun k hk => ((jl hp).2 k hk).2⟩
   cases hk : kindOf P o.op with
   | gi => simp [gp, yU, ho, hk] at hl
   | pure =>
    cases hv : cj P (aX G t) o.op with
    | none =>
     have : iT P G ih (cZ P G (aX G t) σ o.op) = .err (Nat.add 1000 (pW o.op)) := by unfold cZ; rw [hk]; dsimp only; rw [hv]; rfl
     rw [this] at hrun
     exact absurd hrun.symm (hfin _)
    | some v =>
     have : iT P G ih (cZ P G (aX G t) σ o.op) = .ret v σ := by unfold cZ; rw [hk]; dsimp only; rw [hv]; rfl
     refine main v σ this hj.inv (dA.refl _ _ _) (fun _ _ h => h) (fun b _ h => by rw [hk] at h; cases h) fun t₁ ht₁ => ?_
     unfold ka; rw [hk]; exact ⟨v, hv, ht₁⟩
   | read =>
    cases hv : eV P (aX G t) σ o.op with
    | none =>
     have : iT P G ih (cZ P G (aX G t) σ o.op) = .err (Nat.add 2000 (pW o.op)) := by unfold cZ; rw [hk]; dsimp only; rw [hv]; rfl
     rw [this] at hrun
     exact absurd hrun.symm (hfin _)
    | some v =>
     have : iT P G ih (cZ P G (aX G t) σ o.op) = .ret v σ := by unfold cZ; rw [hk]; dsimp only; rw [hv]; rfl
     refine main v σ this hj.inv (dA.refl _ _ _) (fun _ _ h => h) (fun b _ h => by rw [hk] at h; cases h) fun t₁ ht₁ => ?_
     unfold ka; rw [hk]; exact ⟨v, hv, ht₁⟩
   | alloc =>
    cases hv : ey P (aX G t) o.op with
    | none =>
     have : iT P G ih (cZ P G (aX G t) σ o.op) = .err (Nat.add 3000 (pW o.op)) := by unfold cZ; rw [hk]; dsimp only; rw [hv]; rfl
     rw [this] at hrun
     exact absurd hrun.symm (hfin _)
    | some p =>
     obtain ⟨ob, mk⟩ := p
     have : iT P G ih (cZ P G (aX G t) σ o.op) = .ret (mk.of σ.next) (σ.alloc ob) := by unfold cZ; rw [hk]; dsimp only; rw [hv]; rfl
     obtain ⟨g1, g2, g3⟩ := hj.inv.ahead ob
     refine main _ _ this g1 g2 g3 (fun b hb _ => by rw [vN] at hb; cases hb; exact Nat.le_refl _) fun t₁ ht₁ => ?_
     unfold ka; rw [hk]
     exact ⟨ob, mk, σ.next, hv, av.Cd σ ob, (hj.inv.fresh _ (Nat.le_refl _)).1, hj.FC.next, by simp [av.alloc, Pos.fK], ht₁⟩
theorem J.advance (hs : Shape P ops A) (hfin : ∀ k, fin ≠ .err k) : ∀ (l : List (Nat × List Nat)) (done : List Nat) (t : PT AV) (σ : av), J P G ih ops A n d fin ρ₀ σ₀ w₀ t₀ l done t σ listed ρ w a →
  ∃ l' done' t' σ', J P G ih ops A n d fin ρ₀ σ₀ w₀ t₀ l' done' t' σ' listed ρ w a ∧ (l' = [] ∨ ∃ i rc r, l' = (i, rc) :: r ∧ gp P ops i = true)
 | [], done, t, σ, hj => ⟨[], done, t, σ, hj, .inl rfl⟩
 | (i, rc) :: l, done, t, σ, hj => by
  cases hl : gp P ops i with
  | true => exact ⟨_, done, t, σ, hj, .inr ⟨i, rc, l, rfl, hl⟩⟩
  | false =>
   obtain ⟨t₁, σ₁, hj₁⟩ := hj.Hp hs hl hfin
   exact J.advance hs hfin l _ t₁ σ₁ hj₁
end
section
variable {P : Program} {G : Cx} {ih : fP} {ops : Array Oper} {A : Array Nat} {n : Nat} {d : List DE} {fin : CR} {ρ₀ : bN} {σ₀ : av} {w₀ : World} {t₀ : PT AV}
variable {l : List (Nat × List Nat)} {done : List Nat} {t : PT AV} {σ : av} {listed : Array Bool} {ρ : bN} {w : World} {a : Act}
theorem J.behind (hs : Shape P ops A) (hj : J P G ih ops A n d fin ρ₀ σ₀ w₀ t₀ l done t σ listed ρ w a) {i : Nat} {o : Oper} {x : Value} {ρ₁ : bN} {w₁ : World} (ho : ops[i]? = some o) (hid : i ∈ done) (hn : ¬ Li listed i)
  (hr : ∀ j, j < ops.size → nU A i j = true → Li listed j) (hv : ∀ k v, o.dst = some k → t.get (posOf k) = some v → VR ρ₁ v x) (hinv : Inv ρ₁ σ w₁) (hst : dA ρ₀ σ₀ w₀ ρ₁ σ w₁) (hle : ρ.le ρ₁)
  (hren : ∀ j ∈ done, ¬ Li listed j → j ≠ i → nK P G ops A t₀ t σ ρ₁ σ₀.next.num j) : J P G ih ops A n d fin ρ₀ σ₀ w₀ t₀ l done t σ (listed.setIfInBounds i true) ρ₁ w₁ (a.put o.dst x) := by
 have hil : i < listed.size := by rw [hj.Eb]; exact hj.Gt i hid
 have hdi : dQ ops i = o.dst := fp ho
 obtain ⟨p1, p2, p3⟩ := CQ (a := a) (dst := o.dst) (x := x)
 have hset : ∀ {j}, Li (listed.setIfInBounds i true) j ↔ j = i ∨ Li listed j := wm hil
 refine ⟨hj.run, hj.ok, hinv, hst, by rw [put_defers]; exact hj.dr.mono hle, hj.gr.mono hle, by rw [p3]; exact hj.Fx, by simpa using hj.Eb, hj.Gt, hj.ord, fun j h => ?_, fun j h hh => hset.2 (.inr (hj.gi j h hh)), fun j q hq h ha => ?_, hj.iU, hj.GO,
  fun j k v h hk hu => ?_, fun k v h hu => ?_, hj.same, fun j h hl => ?_, ?_⟩
 ·rcases hset.1 h with rfl | h
  ·exact hid
  ·exact hj.sub j h
 ·rcases hset.1 h with rfl | h
  ·exact hset.2 (.inr (hr q hq ha))
  ·exact hset.2 (.inr (hj.closed j q hq h ha))
 ·by_cases e : j = i
  ·subst e
   rw [hdi] at hk
   rw [p2 k hk (by rw [hj.Fx]; exact hj.GO j hid k (by rw [hdi]; exact hk))]
   exact hv k v hk hu
  ·have hL := (hset.1 h).resolve_left e
   rw [p1 k (fun e' => e (hs.uniq j i k hk (by rw [hdi]; exact e')))]
   exact VR.mono hle _ _ (hj.xx j k v hL hk hu)
 ·rw [p1 k (fun e' => h i (hset.2 (.inl rfl)) (by rw [hdi]; exact e'))]
  obtain ⟨q1, q2⟩ := hj.xr k v (fun j hL => h j (hset.2 (.inr hL))) hu
  exact ⟨q1, VR.mono hle _ _ q2⟩
 ·exact hren j h (fun hL => hl (hset.2 (.inr hL))) (fun e => hl (hset.2 (.inl e)))
 ·intro j q o' o'' k k' u u' b h1 h2 h3 h4
  exact hj.apart j q o' o'' k k' u u' b h1 h2 (fun hL => h3 (hset.2 (.inr hL))) (fun hL => h4 (hset.2 (.inr hL)))
theorem pq {t₁ : PT AV} {σ₁ : av} : ∀ {rc : List Nat} {j : Nat}, cH P G ops t₁ σ₁ rc = true → j ∈ rc → gj P G ops t₁ σ₁ j = true
 | [], j, _, hj => by cases hj
 | i :: rc, j, h, hj => by
  have h' : (bif gj P G ops t₁ σ₁ i then cH P G ops t₁ σ₁ rc else false) = true := h
  rw [aN] at h'
  split at h'
  ·rename_i hi
   rcases bT hj with rfl | hj
   ·exact hi
   ·exact pq h' hj
  ·cases h'
theorem J.GZ (hs : Shape P ops A) {i : Nat} {rc : List Nat} (hj : J P G ih ops A n d fin ρ₀ σ₀ w₀ t₀ ((i, rc) :: l) done t σ listed ρ w a) (hl : gp P ops i = true) {o : Oper} (ho : ops[i]? = some o)
  (hr : ∀ j, j < ops.size → nU A i j = true → Li listed j) {v : AV} {x : Value} {t₁ : PT AV} {σ₁ : av} {ρ₁ : bN} {w₁ : World} (hp : cK t n o.dst v = some t₁) (hstill : cH P G ops t₁ σ₁ rc = true) (hrun : gO P G ih ops n d l t₁ σ₁ = fin)
  (hv : VR ρ₁ v x) (hinv : Inv ρ₁ σ₁ w₁) (hst : dA ρ σ w ρ₁ σ₁ w₁) : J P G ih ops A n d fin ρ₀ σ₀ w₀ t₀ l (i :: done) t₁ σ₁ (listed.setIfInBounds i true) ρ₁ w₁ (a.put o.dst x) := by
 obtain ⟨hh, hok⟩ := hj.ok
 obtain ⟨f1, f2⟩ := jl hp
 have hle := hst.le hj.inv
 have hil : i < listed.size := by rw [hj.Eb]; exact hh.lt
 have hdi : dQ ops i = o.dst := fp ho
 obtain ⟨p1, p2, p3⟩ := CQ (a := a) (dst := o.dst) (x := x)
 have hset : ∀ {j}, Li (listed.setIfInBounds i true) j ↔ j = i ∨ Li listed j := wm hil
 have hnL : ¬ Li listed i := fun h => hh.new (hj.sub i h)
 have hother : ∀ j ∈ done, ∀ k, dQ ops j = some k → t₁.get (posOf k) = t.get (posOf k) := fun j hjd k hk => f1 k fun e => by
  have := hs.uniq i j k (by rw [hdi]; exact e) hk
  subst this; exact hh.new hjd
 refine ⟨hrun, hok, hinv, hj.FC.trans hst, by rw [put_defers]; exact hj.dr.mono hle, hj.gr.mono hle, by rw [p3]; exact hj.Fx, by simpa using hj.Eb, fun j h => ?_, ⟨hh.dep, hj.ord⟩, fun j h => ?_, fun j h hv => ?_, fun j q hq h ha => ?_, fun j q hq h ha => ?_, fun j h k hk => ?_,
  fun j k u h hk hu => ?_, fun k u h hu => ?_, fun k hk => ?_, fun j h hjl => ?_, ?_⟩
 ·rcases bT h with rfl | h
  ·exact hh.lt
  ·exact hj.Gt j h
 ·rcases hset.1 h with rfl | h
  ·exact List.mem_cons_self ..
  ·exact List.mem_cons_of_mem _ (hj.sub j h)
 ·rcases bT h with rfl | h
  ·exact hset.2 (.inl rfl)
  ·exact hset.2 (.inr (hj.gi j h hv))
 ·rcases hset.1 h with rfl | h
  ·exact hset.2 (.inr (hr q hq ha))
  ·exact hset.2 (.inr (hj.closed j q hq h ha))
 ·rcases bT h with rfl | h
  ·exact List.mem_cons_of_mem _ (sb hs hh.lt hh.dep hj.iU q hq ha)
  ·exact List.mem_cons_of_mem _ (hj.iU j q hq h ha)
 ·rcases bT h with rfl | h
  ·exact (f2 k (by rw [← hdi]; exact hk)).1
  ·exact hj.GO j h k hk
 ·by_cases e : j = i
  ·subst e
   rw [hdi] at hk
   obtain ⟨q1, q2⟩ := f2 k hk
   rw [p2 k hk (by rw [hj.Fx]; exact q1)]
   rw [q2] at hu; cases hu
   exact hv
  ·have hL := (hset.1 h).resolve_left e
   rw [p1 k (fun e' => e (hs.uniq j i k hk (by rw [hdi]; exact e')))]
   rw [hother j (hj.sub j hL) k hk] at hu
   exact VR.mono hle _ _ (hj.xx j k u hL hk hu)
 ·rw [p1 k (fun e' => h i (hset.2 (.inl rfl)) (by rw [hdi]; exact e'))]
  obtain ⟨q1, q2⟩ := hj.xr k u (fun j hL => h j (hset.2 (.inr hL))) hu
  exact ⟨q1, VR.mono hle _ _ q2⟩
 ·rw [f1 k (fun e => hk i (List.mem_cons_self ..) (by rw [hdi]; exact e))]
  exact hj.same k fun j h => hk j (List.mem_cons_of_mem _ h)
 ·have hji : j ≠ i := fun e => hjl (hset.2 (.inl e))
  have hjL : ¬ Li listed j := fun hL => hjl (hset.2 (.inr hL))
  have hjd : j ∈ done := (bT h).resolve_left hji
  refine (hj.yl j hjd hjL).again hs (fun k hk => ?_) (fun k hk => ?_) (fun hlm => ?_) (fun b hb => hst.ext b hb) hst.next
  ·rcases hk with hk | ⟨q, hq, hk⟩
   ·exact hother j hjd k hk
   ·exact hother q (hj.iU j q (jJ hk) hjd hq) k hk
  ·rw [f1 k (fun e => hk i (by rw [hdi]; exact e))]
   exact hj.same k fun j _ => hk j
  ·rcases hh.again hl j hjd hlm with ha | hm
   ·exact absurd (hr j (hj.Gt j hjd) ha) hjL
   ·exact pq hstill hm
 ·intro j q o' o'' k k' u u' b h1 h2 h3 h4 h5 h6 h7 h8 h9 h10 h11 h12 h13 h14
  have m1 : j ∈ done := (bT h1).resolve_left fun e => h3 (hset.2 (.inl e))
  have m2 : q ∈ done := (bT h2).resolve_left fun e => h4 (hset.2 (.inl e))
  rw [hother j m1 k h9] at h11
  rw [hother q m2 k' h10] at h12
  exact hj.apart j q o' o'' k k' u u' b m1 m2 (fun hL => h3 (hset.2 (.inr hL))) (fun hL => h4 (hset.2 (.inr hL))) h5 h6 h7 h8 h9 h10 h11 h12 h13 h14
theorem xB {i : Nat} (hsz : listed.size = ops.size) (h : i ∈ Region.ready .any ops listed) : i < ops.size ∧ ¬ Li listed i ∧ ∀ j, waits ops i j = true → Li listed j := by
 obtain ⟨h1, o, ho, h2⟩ := mem_ready.1 h
 have hlt := (Array.getElem?_eq_some_iff.1 ho).1
 refine ⟨hlt, (CN (by rw [hsz]; exact hlt)).1 h1, fun j hw => ?_⟩
 obtain ⟨o', ho', e, he, hb, rfl⟩ := nv.1 hw
 rw [ho] at ho'; cases ho'
 exact h2 e he hb
theorem w9 {i : Nat} (hsz : listed.size = ops.size) (hlt : i < ops.size) (hn : ¬ Li listed i) (hw : ∀ j, waits ops i j = true → Li listed j) : i ∈ Region.ready .any ops listed :=
 mem_ready.2 ⟨(CN (by rw [hsz]; exact hlt)).2 hn, ops[i]'hlt, Array.getElem?_eq_getElem hlt, fun e he hb => hw _ (nv.2 ⟨_, Array.getElem?_eq_getElem hlt, e, he, hb, rfl⟩)⟩
theorem uy : ∀ {done : List Nat}, Ord ops done → (∃ i ∈ done, ¬ Li listed i) → ∃ i ∈ done, ¬ Li listed i ∧ ∀ j, waits ops i j = true → Li listed j
 | [], _, ⟨i, hi, _⟩ => by cases hi
 | i :: r, ho, ⟨q, hq, hn⟩ => by
  by_cases hr : ∃ j ∈ r, ¬ Li listed j
  ·obtain ⟨j, h1, h2, h3⟩ := uy ho.2 hr
   exact ⟨j, List.mem_cons_of_mem _ h1, h2, h3⟩
  ·have hall : ∀ j ∈ r, Li listed j := fun j hj => Classical.byContradiction fun h => hr ⟨j, hj, h⟩
   rcases bT hq with rfl | hq
   ·exact ⟨q, List.mem_cons_self .., hn, fun j hw => hall j (ho.1 j hw)⟩
   ·exact absurd (hall q hq) hn
theorem J.all (hs : Shape P ops A) (hj : J P G ih ops A n d fin ρ₀ σ₀ w₀ t₀ l done t σ listed ρ w a) (hr : Region.ready .any ops listed = []) : ∀ i, i < ops.size → Li listed i := by
 have hall : ∀ i ∈ done, Li listed i := fun i hi => Classical.byContradiction fun h => by
  obtain ⟨q, h1, h2, h3⟩ := uy hj.ord ⟨i, hi, h⟩
  have := w9 hj.Eb (hj.Gt q h1) h2 h3
  rw [hr] at this; cases this
 intro i hi
 cases l with
 | nil =>
  have := hj.ok
  exact hall i (this i hi)
 | cons p l =>
  obtain ⟨q, rc⟩ := p
  obtain ⟨hh, _⟩ := hj.ok
  have := w9 (listed := listed) hj.Eb hh.lt (fun h => hh.new (hj.sub q h)) (fun j hw => hall j (hh.dep j hw))
  rw [hr] at this; cases this
theorem J.finish (hs : Shape P ops A) (hj : J P G ih ops A n d fin ρ₀ σ₀ w₀ t₀ l done t σ listed ρ w a) (hall : ∀ i, i < ops.size → Li listed i) : fin = .ok .normal t d σ ∧ TR ρ t n a.tmps := by
 cases l with
 | nil =>
  refine ⟨hj.run.symm, hj.Fx, fun k v hv => ?_⟩
  by_cases hw : ∃ i, dQ ops i = some k
  ·obtain ⟨i, hi⟩ := hw
   have hL := hall i (jJ hi)
   exact ⟨hj.GO i (hj.sub i hL) k hi, hj.xx i k v hL hi hv⟩
  ·rw [hj.same k fun i _ hi => hw ⟨i, hi⟩] at hv
   exact hj.xr k v (fun i _ hi => hw ⟨i, hi⟩) hv
 | cons p l =>
  obtain ⟨q, rc⟩ := p
  obtain ⟨hh, _⟩ := hj.ok
  exact absurd (hj.sub q (hall q hh.lt)) hh.new
def left (N : Nat) (listed : Array Bool) : Nat := (List.range N).countP fun i => !listed.getD i false
theorem uJ {α : Type} {p q : α → Bool} : ∀ {l : List α} {x : α}, (∀ y ∈ l, q y = true → p y = true) → x ∈ l → p x = true → q x = false → l.countP q < l.countP p
 | [], x, _, hx, _, _ => by cases hx
 | y :: l, x, h, hx, hp, hq => by
  have hle : l.countP q ≤ l.countP p := List.countP_mono_left fun z hz => h z (List.mem_cons_of_mem _ hz)
  rcases bT hx with rfl | hx
  ·simp [List.countP_cons, hp, hq]; omega
  ·have := uJ (fun z hz => h z (List.mem_cons_of_mem _ hz)) hx hp hq
   rw [List.countP_cons, List.countP_cons]
   cases hy : q y with
   | false => simp; omega
   | true => rw [h y (List.mem_cons_self ..) hy]; simp; omega
theorem Cl {N i : Nat} (hi : i < N) (hsz : listed.size = N) (hn : ¬ Li listed i) : left N (listed.setIfInBounds i true) < left N listed := by
 refine uJ (x := i) (fun y _ hy => ?_) (List.mem_range.2 hi) ?_ ?_
 ·by_cases h : Li listed y
  ·have : Li (listed.setIfInBounds i true) y := (wm (by rw [hsz]; exact hi)).2 (.inr h)
   unfold Li at this
   rw [this] at hy; cases hy
  ·unfold Li at h; simpa using h
 ·unfold Li at hn; simpa using hn
 ·have : Li (listed.setIfInBounds i true) i := (wm (by rw [hsz]; exact hi)).2 (.inl rfl)
  unfold Li at this
  rw [this]; rfl
theorem BR {N : Nat} (h : left N listed = 0) : ∀ i, i < N → Li listed i := fun i hi => by
 have := List.countP_eq_zero.1 h i (List.mem_range.2 hi)
 unfold Li
 simpa using this
theorem Inv.lay (hi : Inv ρ σ w) {b : Pos} {l : Loc} {ob : bF} {x : Obj} (hb : σ.m.get b = some ob) (hn : ρ b = none) (hlt : b.num < σ.next.num) (hl : l.cF = w.heap.size) (ho : fh ρ l ob x) : Inv (ρ.with b l) σ (w.alloc x) ∧ ρ.le (ρ.with b l) := by
 have hle : ρ.le (ρ.with b l) := fun b' l' hb' => by
  rw [bN.cV]; · exact hb'
  ·intro e; subst e; rw [hn] at hb'; cases hb'
 have hold : ∀ b' l', b' ≠ b → (ρ.with b l) b' = some l' → ρ b' = some l' := fun b' l' hne h => by rwa [bN.cV ρ l hne] at h
 have hold2 : Old (ρ.with b l) σ (w.alloc x) := by
  refine ⟨by have := hi.mf.size; simp; omega, fun r hr => by rw [heap_alloc_old w x (Nat.lt_of_lt_of_le hr hi.mf.size)]; exact hi.mf.same r hr, fun r hr ⟨b', o', l', h1, h2, h3, h4⟩ => ?_⟩
  by_cases e : b' = b
  ·subst e
   rw [bN.bI] at h3; cases h3
   have := hi.mf.size
   omega
  ·exact hi.mf.no r hr ⟨b', o', l', h1, h2, hold b' l' e h3, h4⟩
 refine ⟨⟨⟨fun b' hb' => ?_, fun b' l' hb' => ?_, fun b' o' l' hb' hl' => ?_, fun b₁ b₂ o₁ o₂ l₁ l₂ h1 h2 h3 h4 h5 h6 => ?_⟩, hold2⟩, hle⟩
 ·have hne : b' ≠ b := fun e => by subst e; omega
  rw [bN.cV ρ l hne]
  exact hi.fresh b' hb'
 ·simp only [World.size_alloc]
  by_cases e : b' = b
  ·subst e; rw [bN.bI] at hb'; cases hb'; omega
  ·have := hi.cF b' l' (hold b' l' e hb'); omega
 ·by_cases e : b' = b
  ·subst e
   rw [bN.bI] at hl'; cases hl'
   rw [hb] at hb'; cases hb'
   exact ⟨x, by rw [hl]; exact heap_alloc_new w x, ho.mono hle⟩
  ·have h' := hold b' l' e hl'
   obtain ⟨y, hy, hr⟩ := hi.obj b' o' l' hb' h'
   exact ⟨y, by rw [heap_alloc_old w x (hi.cF b' l' h')]; exact hy, hr.mono hle⟩
 ·by_cases e1 : b₁ = b <;> by_cases e2 : b₂ = b
  ·exact absurd (e1.trans e2.symm) h6
  ·subst e1
   rw [bN.bI] at h3; cases h3
   have := hi.cF b₂ l₂ (hold b₂ l₂ e2 h4); omega
  ·subst e2
   rw [bN.bI] at h4; cases h4
   have := hi.cF b₁ l₁ (hold b₁ l₁ e1 h3); omega
  ·exact hi.inj b₁ b₂ o₁ o₂ l₁ l₂ h1 h2 (hold b₁ l₁ e1 h3) (hold b₂ l₂ e2 h4) h5 h6
theorem dA.lay (hst : dA ρ₀ σ₀ w₀ ρ σ w) {b : Pos} {l : Loc} {x : Obj} (hlo : σ₀.next.num ≤ b.num) (hl : l.cF = w.heap.size) : dA ρ₀ σ₀ w₀ (ρ.with b l) σ (w.alloc x) := by
 refine ⟨fun b' hb' => ?_, hst.next, by have := hst.size; simp; omega, fun r hr hn => ?_, ?_, hst.tape, hst.os, hst.out⟩
 ·rw [bN.cV ρ l (fun e => by subst e; omega)]
  exact hst.ext b' hb'
 ·rw [heap_alloc_old w x (by have := hst.size; omega)]
  exact hst.frame r hr hn
 ·rintro r ⟨b', o', l', h1, h2, h3, rfl⟩ hr
  by_cases e : b' = b
  ·subst e; rw [bN.bI] at h3; cases h3; have := hst.size; omega
  ·rw [bN.cV ρ l e] at h3
   exact hst.wr _ ⟨b', o', l', h1, h2, h3, rfl⟩ hr
theorem J.take (hs : Shape P ops A) (hj : J P G ih ops A n d fin ρ₀ σ₀ w₀ t₀ l done t σ listed ρ w a) {i : Nat} (hid : i ∈ done) (hn : ¬ Li listed i) (hw : ∀ j, waits ops i j = true → Li listed j) (rl : Option Nat) (m : Nat) {Q : Exit → Act → World → Prop} {K : Act → World → Prop}
  (hK : ∀ ρ₁ w₁ a₁, J P G ih ops A n d fin ρ₀ σ₀ w₀ t₀ l done t σ (listed.setIfInBounds i true) ρ₁ w₁ a₁ → K a₁ w₁) : wpOpIn (gJ rl) m P ops Q i K a w := by
 have hr := sP hs (hj.Gt i hid) hw hj.closed
 obtain ⟨o, ti, ho, h1, h2, bw, h3, h4, h5⟩ := hj.yl i hid hn
 have hlook := hj.look hs ho hn hr h1 h2
 unfold wpOpIn
 rw [ho]
 dsimp only
 rw [q7 hj.Fx hlook h3]
 cases bw with
 | false =>
  simp only [Bool.false_eq_true, if_false]
  exact ⟨fun f _ => fO rl f, hK ρ w _ (hj.behind hs ho hid hn hr (fun k v hk hv => by rw [h4 rfl k hk] at hv; cases hv; exact iQ) hj.inv hj.FC (fun _ _ h => h) fun j hjd hjl _ => hj.yl j hjd hjl)⟩
 | true =>
  simp only [if_true]
  have hE : ER ρ (aX G ti) a.eval o.op := Aa hj.gr hlook
  have hv := h5 rfl
  unfold ka at hv
  have hnd : kindOf P o.op ≠ .gi → ∀ c, o.op ≠ .defer c := fun hk c e => hk (by rw [e]; rfl)
  unfold Oper.wpIn
  refine ⟨fun f _ => fO rl f, ?_⟩
  cases hk : kindOf P o.op with
  | gi => rw [hk] at hv; exact hv.elim
  | pure =>
   rw [hk] at hv
   obtain ⟨v, g1, g2⟩ := hv
   obtain ⟨x, hx, hvx⟩ := tC (P := P) (w := w) hE g1
   rw [Oper.semAt_eq _ _ _ (hnd (by rw [hk]; simp)), hx, Oper.uponIn_value]
   exact hK ρ w _ (hj.behind hs ho hid hn hr (fun k u hk hu => by rw [g2 k hk] at hu; cases hu; exact hvx) hj.inv hj.FC (fun _ _ h => h) fun j hjd hjl _ => hj.yl j hjd hjl)
  | read =>
   rw [hk] at hv
   obtain ⟨v, g1, g2⟩ := hv
   obtain ⟨x, hx, hvx⟩ := sk (P := P) hj.inv hE g1
   rw [Oper.semAt_eq _ _ _ (hnd (by rw [hk]; simp)), hx, Oper.uponIn_value]
   exact hK ρ w _ (hj.behind hs ho hid hn hr (fun k u hk hu => by rw [g2 k hk] at hu; cases hu; exact hvx) hj.inv hj.FC (fun _ _ h => h) fun j hjd hjl _ => hj.yl j hjd hjl)
  | alloc =>
   rw [hk] at hv
   obtain ⟨ob, mk, b, g1, g2, g3, g4, g5, g6⟩ := hv
   obtain ⟨x, ob', c, hx, hro, hob, hvx⟩ := qG (P := P) (w := w) hE g1
   rw [Oper.semAt_eq _ _ _ (hnd (by rw [hk]; simp)), hx, Oper.uponIn_value]
   obtain ⟨inv, hle⟩ := hj.inv.lay (l := ⟨w.heap.size, 0, c⟩) g2 g3 g5 rfl hob
   obtain ⟨kd, hkd⟩ := hs.dst i o ho (by simp [eC, qn, ho, hk])
   refine hK _ _ _ (hj.behind hs ho hid hn hr (fun k u hk hu => by rw [g6 k hk] at hu; cases hu; exact hvx _ b (bN.bI _ _ _)) inv (hj.FC.lay g4 rfl) hle fun j hjd hjl hji => ?_)
   refine (hj.yl j hjd hjl).Iw hs fun b' hb' hb'n => ?_
   obtain ⟨o', k', v', q1, q2, q3, q4, q5⟩ := hb'
   rw [bN.cV]
   ·exact hb'n
   ·intro e
    subst e
    exact hji (hj.apart j i o' o k' kd v' (mk.of b') b' hjd hid hjl hn q1 ho q2 hk q3 (by rw [fp ho]; exact hkd) q4 (g6 kd hkd) q5 (vN mk b'))
theorem CU (hs : Shape P ops A) (hS : Sound P G ih) (rl : Option Nat) (m : Nat) {Q : Exit → Act → World → Prop} {e : Ex} {t' : PT AV} {d' : List DE} {σ' : av} (hfin : fin = .ok e t' d' σ')
  (hQ : ∀ (ρ' : bN) (w' : World) (a' : Act), Inv ρ' σ' w' → dA ρ₀ σ₀ w₀ ρ' σ' w' → TR ρ' t' n a'.tmps → DR ρ' d' a'.defers → Qx Q ρ' e a' w') :
  ∀ (fuel : Nat) (l : List (Nat × List Nat)) (done : List Nat) (t : PT AV) (σ : av) (listed : Array Bool) (ρ : bN) (w : World) (a : Act), J P G ih ops A n d fin ρ₀ σ₀ w₀ t₀ l done t σ listed ρ w a → left ops.size listed ≤ fuel →
   wpAnyIn (gJ rl) m P .any ops Q fuel listed a w := by
 have hend : ∀ {l done t σ listed ρ w a}, J P G ih ops A n d fin ρ₀ σ₀ w₀ t₀ l done t σ listed ρ w a → Region.ready .any ops listed = [] → Q .normal a w := fun {l done t σ listed ρ w a} hj hr => by
  obtain ⟨h1, h2⟩ := hj.finish hs (hj.all hs hr)
  rw [hfin] at h1
  cases h1
  exact hQ ρ w a hj.inv hj.FC h2 hj.dr _ rfl
 intro fuel
 induction fuel with
 | zero =>
  intro l done t σ listed ρ w a hj hf
  have hall := BR (Nat.le_zero.1 hf)
  have hr : Region.ready .any ops listed = [] := by
   apply List.eq_nil_iff_forall_not_mem.2
   intro i hi
   obtain ⟨h1, h2, _⟩ := xB hj.Eb hi
   exact h2 (hall i h1)
  exact ⟨hr, hend hj hr⟩
 | succ fuel ihf =>
  intro l done t σ listed ρ w a hj hf
  refine ⟨fun hr => hend hj hr, fun i hi => ?_⟩
  obtain ⟨l, done, t, σ, hj, hhead⟩ := J.advance hs (fun k => by rw [hfin]; simp) l done t σ hj
  obtain ⟨hlt, hn, hw⟩ := xB hj.Eb hi
  have hf' : left ops.size (listed.setIfInBounds i true) ≤ fuel := by have := Cl hlt hj.Eb hn; omega
  by_cases hid : i ∈ done
  ·exact hj.take hs hid hn hw rl m fun ρ₁ w₁ a₁ hj₁ => ihf _ _ _ _ _ _ _ _ hj₁ hf'
  ·
   rcases hhead with rfl | ⟨q, rc, r, rfl, hl⟩
   ·have := hj.ok
    exact absurd (this i hlt) hid
   ·obtain ⟨hh, _⟩ := hj.ok
    have hiq : i = q := Classical.byContradiction fun hne => by
     obtain ⟨x, h1, h2⟩ := hh.alone hl i hlt hid hne
     exact h2 (hj.sub x (hw x h1))
    subst hiq
    have hr := sP hs hlt hw hj.closed
    obtain ⟨o, ho⟩ : ∃ o, ops[i]? = some o := ⟨ops[i]'hlt, Array.getElem?_eq_getElem hlt⟩
    have hlook := hj.look hs ho hn hr (ti := t) (fun _ _ _ _ _ => rfl) (hj.r6 hs ho hh.new)
    have hrun : (match ops[i]? with
     | some o => gg P G ih false ops n o t σ (fun t' σ' => bif cH P G ops t' σ' rc then gO P G ih ops n d r t' σ' else .err 86)
     | none => .err 87) = fin := hj.run
    rw [ho, hfin] at hrun
    dsimp only at hrun
    have hcont : ∀ t₁ σ₁, (bif cH P G ops t₁ σ₁ rc then gO P G ih ops n d r t₁ σ₁ else .err 86) = .ok e t' d' σ' → cH P G ops t₁ σ₁ rc = true ∧ gO P G ih ops n d r t₁ σ₁ = fin := fun t₁ σ₁ h => by
     rw [aN] at h
     split at h
     ·rename_i hst; exact ⟨hst, by rw [hfin]; exact h⟩
     ·cases h
    unfold gg at hrun
    unfold wpOpIn
    rw [ho]
    dsimp only
    cases hwa : bj ops t o with
    | none => rw [hwa] at hrun; cases hrun
    | some bw =>
     rw [hwa] at hrun
     rw [q7 hj.Fx hlook hwa]
     cases bw with
     | false =>
      dsimp only at hrun
      simp only [Bool.false_eq_true, if_false]
      cases hp : cK t n o.dst unit with
      | none => rw [hp] at hrun; cases hrun
      | some t₁ =>
       rw [hp] at hrun
       obtain ⟨c1, c2⟩ := hcont _ _ hrun
       exact ⟨fun f _ => fO rl f, ihf _ _ _ _ _ _ _ _ (hj.GZ hs hl ho hr hp c1 c2 iQ hj.inv (dA.refl _ _ _)) hf'⟩
     | true =>
      dsimp only at hrun
      simp only [if_true]
      cases he : iT P G ih (cZ P G (aX G t) σ o.op) with
      | err k => rw [he] at hrun; cases hrun
      | gf v σ₁ => rw [he] at hrun; cases hrun
      | ret v σ₁ =>
       rw [he] at hrun
       dsimp only at hrun
       cases hp : cK t n o.dst v with
       | none => rw [hp] at hrun; cases hrun
       | some t₁ =>
        rw [hp] at hrun
        obtain ⟨c1, c2⟩ := hcont _ _ hrun
        exact wS hS hj.inv hj.gr (Aa hj.gr hlook) he rl m fun ρ₁ w₁ x inv st hv => ihf _ _ _ _ _ _ _ _ (hj.GZ hs hl ho hr hp c1 c2 hv inv st) hf'
end
section
variable {P : Program} {G : Cx}
theorem fZ {b : Frame} {a : Act} {k : List Item} {cs : List Frame} {w : World} {c : Code} : step P (lone (b.atR a (.code (.scope c) :: k)) cs w) = .next (lone (b.atR a (.code c :: .inScope c :: k)) cs w) :=
 step_lone_go (by simp [stepG, stepG.exec, Frame.atR])
theorem tQ {b : Frame} {a : Act} {k : List Item} {cs : List Frame} {w : World} {c : Code} : step P (lone (b.atR a (.inScope c :: k)) cs w) = .next (lone (b.atR a k) cs w) :=
 step_lone_go (by simp [stepG, stepG.exec, Frame.atR])
theorem zA {F : Fence} {n : Nat} {c : Code} {Q : Exit → Act → World → Prop} {a : Act} {w : World} (h : c.wpIn F n P (Exit.noGoto Q) a w) : (Code.scope c).wpIn F n P Q a w := by
 intro b k cs hro hb hr
 have h0 : (lone (b.atR a (.code (.scope c) :: k)) cs w).fenced P F := fenced_calm hb hr rfl
 obtain ⟨e, a₁, w₁, hq, harr⟩ := h b (.inScope c :: k) cs hro hb hr
 cases e with
 | normal => exact ⟨.normal, a₁, w₁, hq, .head h0 fZ (StepsIn.trans harr (.one (fenced_calm hb hr rfl) tQ))⟩
 | exit id' =>
  have hx : exitTo id' (.inScope c :: k) = exitTo id' k := by simp [exitTo]
  exact ⟨.exit id', a₁, w₁, hq, fun k' hk => .head h0 fZ (harr.1 k' (by rw [hx]; exact hk)),
   fun hr' hk => let ⟨k₁, h1, h2⟩ := harr.2 hr' (by rw [hx]; exact hk); ⟨k₁, h1, .head h0 fZ h2⟩⟩
 | goto l => exact hq.elim
 | ret => exact ⟨_, a₁, w₁, hq, .of_steps (.one h0 fZ) harr⟩
 | panic ch => exact ⟨_, a₁, w₁, hq, .of_steps (.one h0 fZ) harr⟩
 | outgrown => exact ⟨_, a₁, w₁, hq, .of_steps (.one h0 fZ) harr⟩
theorem hU {N i : Nat} : ¬ Li (Array.replicate N false) i := by
 unfold Li
 rw [Array.getD_eq_getD_getElem?, Array.getElem?_replicate]
 split <;> simp
theorem yG {ih : fP} (hS : Sound P G ih) {ops : Array Oper} {n : Nat} {d : List DE} {t : PT AV} {σ : av} {e : Ex} {t' : PT AV} {d' : List DE} {σ' : av} (h : qU P G ih ops n d t σ = .ok e t' d' σ')
  {ρ : bN} {w : World} {a : Act} (hi : Inv ρ σ w) (hg : GR ρ G) (ht : TR ρ t n a.tmps) (hd : DR ρ d a.defers) (rl : Option Nat) (m : Nat) {Q : Exit → Act → World → Prop}
  (hQ : ∀ (ρ' : bN) (w' : World) (a' : Act), Inv ρ' σ' w' → dA ρ σ w ρ' σ' w' → TR ρ' t' n a'.tmps → DR ρ' d' a'.defers → Qx Q ρ' e a' w') :
  wpAnyIn (gJ rl) m P .any ops Q ops.size (Array.replicate ops.size false) a { w with drawn := w.drawn + 1 } := by
 unfold qU at h
 rw [aN] at h
 split at h
 ·rename_i hc
  obtain ⟨hs, hc2⟩ := Fi hc
  refine CU (A := vO P ops) (n := n) (d := d) (t₀ := t) (ρ₀ := ρ) (σ₀ := σ) (w₀ := w) hs hS rl m rfl hQ ops.size (qg P ops) [] t σ _ ρ _ a ?_ ?_
  ·refine ⟨h, hc2, hi.drew, dA.drew ρ σ w, hd, hg, ht.1, by simp, fun i hi => (by cases hi), trivial, fun i hL => absurd hL hU, fun i hi => (by cases hi), fun i j _ hL => absurd hL hU, fun i j _ hi => (by cases hi), fun i hi => (by cases hi),
    fun i k v hL => absurd hL hU, fun k v _ hv => ht.2 k v hv, fun _ _ => rfl, fun i hi => (by cases hi), ?_⟩
   intro i j o o' k k' u u' b hi
   cases hi
  ·exact Nat.le_trans List.countP_le_length (by simp)
 ·cases h
theorem wF {ro : Option Pos} {rl : Option Nat} {d d₁ : List DE} {σ σ₁ : av} {df : Pos} {ρ : bN} {w : World} {a : Act} {t : PT AV} {n : Nat} (h : vZ ro d σ = some (df, σ₁, d₁)) (hi : Inv ρ σ w) (ht : TR ρ t n a.tmps) (hd : DR ρ d a.defers) (hr : RO ρ ro rl)
  (fn : FuncId) (ps : Array Tmp) (assign body : Code) :
  ∃ l mark w₁ ρ₁, (Instr.enterLoop fn a.tmps ps assign body rl).run P w = .ok (l, mark) w₁ ∧ Inv ρ₁ (σ₁.alloc (.loop .ready none t n ps.toList assign body df)) w₁ ∧ dA ρ σ w ρ₁ (σ₁.alloc (.loop .ready none t n ps.toList assign body df)) w₁ ∧
   ρ₁ σ₁.next = some ⟨l, 0, 0⟩ ∧ DR ρ₁ d₁ (mark ++ a.defers) := by
 unfold vZ at h
 cases ro with
 | none =>
  cases rl with
  | some _ => exact hr.elim
  | none =>
  cases h
  obtain ⟨i1, s1⟩ := hi.alloc (o := .mark) (x := .deferred (some [])) (l := ⟨w.heap.size, 0, 0⟩) rfl rfl
  have hle1 := s1.le hi
  obtain ⟨i2, s2⟩ := i1.alloc (o := .loop .ready none t n ps.toList assign body σ.next) (x := .loop { state := .ready, pending := none, fn := fn, tmps := a.tmps, params := ps, assign := assign, body := body, defers := w.heap.size }) (l := ⟨w.heap.size + 1, 0, 0⟩) (by simp)
   ⟨fn, a.tmps, ⟨w.heap.size, 0, 0⟩, by simp, bN.bI _ _ _, ht.mono hle1⟩
  refine ⟨_, _, _, _, run_enterLoop_outer fn a.tmps ps assign body, i2, s1.trans s2, bN.bI _ _ _, ?_⟩
  exact ⟨⟨w.heap.size, 0, 0⟩, a.defers, s2.le i1 _ _ (bN.bI _ _ _), rfl, hd.mono (fun b l hb => s2.le i1 _ _ (hle1 b l hb))⟩
 | some b =>
  cases rl with
  | none => exact hr.elim
  | some l₀ =>
  obtain ⟨loc, hl, rfl⟩ := hr
  dsimp only at h
  cases hb : σ.m.get b with
  | none => rw [hb] at h; cases h
  | some ob =>
  rw [hb] at h
  cases ob with
  | loop st p tmps n' ps' as' bd df' =>
   cases h
   obtain ⟨x, hh, fn', tmps', l', rfl, hdf, htm⟩ := hi.obj b _ loc hb hl
   obtain ⟨i2, s2⟩ := hi.alloc (o := .loop .ready none t n ps.toList assign body df) (x := .loop { state := .ready, pending := none, fn := fn, tmps := a.tmps, params := ps, assign := assign, body := body, defers := l'.cF }) (l := ⟨w.heap.size, 0, 0⟩) rfl
    ⟨fn, a.tmps, l', by simp, hdf, ht⟩
   exact ⟨_, _, _, _, run_enterLoop_inner hh fn a.tmps ps assign body, i2, s2, bN.bI _ _ _, hd.mono (s2.le hi)⟩
  | _ => cases h
theorem tB {K : Act → World → Prop} {Q : Exit → Act → World → Prop} {ρ : bN} {e : Ex} {a : Act} {w : World} (he : e ≠ .normal) (h : Qx Q ρ e a w) : Qx (Exit.then K Q) ρ e a w := by
 intro E hE
 have h' := h E hE
 cases e with
 | normal => exact absurd rfl he
 | gf v => obtain ⟨x, rfl, _⟩ := hE; exact h'
 | exit i => have hE : E = .exit i := hE; subst hE; exact h'
 | goto i => have hE : E = .goto i := hE; subst hE; exact h'
 | ret => have hE : E = .ret := hE; subst hE; exact h'
theorem yc {ih : fP} (hS : Sound P G ih) {g : Operand} {ps : Array Tmp} {assign body : Code} {t : PT AV} {n : Nat} {d : List DE} {ro : Option Pos} {σ : av} {e : Ex} {t' : PT AV} {d' : List DE} {σ' : av}
  (h : vU P G ih g ps assign body t n d ro σ = .ok e t' d' σ') {ρ : bN} {w : World} {a : Act} {rl : Option Nat} {m : Nat} {Q : Exit → Act → World → Prop} (hi : Inv ρ σ w) (hg : GR ρ G) (ht : TR ρ t n a.tmps) (hd : DR ρ d a.defers) (hr : RO ρ ro rl)
  (hQ : ∀ (ρ' : bN) (w' : World) (a' : Act), Inv ρ' σ' w' → dA ρ σ w ρ' σ' w' → TR ρ' t' n a'.tmps → DR ρ' d' a'.defers → Qx Q ρ' e a' w') : (Code.rangeFunc g ps assign body).wpIn (gJ rl) m P Q a w := by
 unfold vU at h
 cases hm : vZ ro d σ with
 | none => rw [hm] at h; cases h
 | some q =>
 obtain ⟨df, σ₁, d₁⟩ := q
 rw [hm] at h
 dsimp only at h
 cases hv : aX G t g with
 | none => rw [hv] at h; cases h
 | some fv =>
 rw [hv] at h
 cases fv with
 | func f fi ca =>
  dsimp only at h
  rw [aN] at h
  split at h
  ·rename_i hgo
   refine wpIn_rangeFunc fun fn _ => ?_
   obtain ⟨l, mark, w₁, ρ₁, g1, g2, g3, g4, g5⟩ := wF (P := P) hm hi ht hd hr fn ps assign body
   have hle := g3.le hi
   have hfv := fc (a := a) hg ht hv
   simp only [VR] at hfv
   obtain ⟨fi', ca', hev, hfi, hca⟩ := hfv
   have hres : (resolve a.eval (rangeCall g l) 0).run P w₁ = .ok { target := .fn (.func f) ca', args := fi' ++ #[.func (.yield l) #[] #[]] } w₁ := by
    have hm1 : (#[Operand.const (.func (.yield l) #[] #[])]).map a.eval = #[.func (.yield l) #[] #[]] := by simp [Act.eval]
    simp only [resolve, rangeCall, hm1, hev, Deferred.ofValue, Sem.run_pure]
   have hinv : (invoke (.fn (.func f) ca') (fi' ++ #[.func (.yield l) #[] #[]])).run P w₁ = .ok (.enter f (fi' ++ #[.func (.yield l) #[] #[]] ++ ca')) w₁ := by
    simp only [invoke]
    exact oZ hgo
   refine ⟨l, mark, w₁, _, w₁, f, _, w₁, by rw [ss]; exact g1, hres, fun f' _ => fO rl f', hinv, ny rl m, ?_⟩
   cases hc : iD P G ih f (eJ fi (.yield σ₁.next :: ca)) (σ₁.alloc (.loop .ready none t n ps.toList assign body df)) with
   | err k => rw [hc] at h; cases h
   | gf v σ₃ => rw [hc] at h; cases h
   | ret v σ₃ =>
   rw [hc] at h
   dsimp only at h
   refine oJ hS hc g2 (hg.mono hle) ?_ rl _ fun ρ₃ w₃ x i₃ s₃ hx => ?_
   ·rw [cN]
    have : (fi' ++ #[Value.func (.yield l) #[] #[]] ++ ca').toList = fi'.toList ++ (.func (.yield l) #[] #[] :: ca'.toList) := by simp
    rw [this]
    refine bX.append (bX.mono hle _ _ hfi) (bX.cons ?_ (bX.mono hle _ _ hca))
    simp only [VR]
    exact ⟨_, g4, rfl⟩
   ·have hl₃ := s₃.le g2 _ _ g4
    have hle₃ : ρ.le ρ₃ := fun b l hb => s₃.le g2 _ _ (hle b l hb)
    unfold Dy at h
    cases hb : σ₃.m.get σ₁.next with
    | none => rw [hb] at h; cases h
    | some ob =>
    rw [hb] at h
    cases ob with
    | loop st p tmps n' ps' as bd df' =>
     dsimp only at h
     obtain ⟨y, hh, fn', tmps', l', rfl, hdf, htm⟩ := i₃.obj _ _ _ hb hl₃
     have hnb : st ≠ .busy := fun hst => by subst hst; cases h
     have h' : (match p with
       | none => CR.ok .normal t d₁ (σ₃.setObj σ₁.next (.loop .exhausted none tmps n' ps' as bd df'))
       | some c => ih c t n d₁ ro (σ₃.setObj σ₁.next (.loop .exhausted (some c) tmps n' ps' as bd df'))) = .ok e t' d' σ' := by
      cases st <;> first | exact absurd rfl hnb | exact h
     obtain ⟨i₄, s₄⟩ := i₃.putObj (o' := .loop .exhausted p tmps n' ps' as bd df') hb hl₃ rfl rfl
      (x := .loop { state := .exhausted, pending := p, fn := fn', tmps := tmps', params := ps'.toArray, assign := as, body := bd, defers := l'.cF }) ⟨fn', tmps', l', rfl, hdf, htm⟩
     refine ⟨p, _, run_endLoop hh hnb, ?_⟩
     have hst := (g3.trans s₃).trans s₄
     have hle₁₃ : ρ₁.le ρ₃ := s₃.le g2
     cases p with
     | none =>
      cases h'
      exact hQ ρ₃ _ { a with defers := mark ++ a.defers } i₄ hst (ht.mono hle₃) (g5.mono hle₁₃) _ rfl
     | some c =>
      exact hS.run c t n d₁ ro _ e t' d' σ' h' ρ₃ _ { a with defers := mark ++ a.defers } rl m Q i₄ (hg.mono hle₃) (ht.mono hle₃) (g5.mono hle₁₃) (hr.mono hle₃) fun ρ' w' a' i' s' t'' d'' => hQ ρ' w' a' i' (hst.trans s') t'' d''
    | _ => cases h
  ·cases h
 | _ => cases h
theorem B0 (hm : P.follows .mixedOrders = true) (hC : xQ P G) (k : Nat) : Sound P G (dx P G k) := by
 induction k using Nat.strongRecOn with
 | _ k ihk =>
  cases k with
  | zero => exact ⟨hC, fun c t n d ro σ e t' d' σ' h => by cases h⟩
  | succ j =>
   have hS := ihk j (Nat.lt_succ_self j)
   refine ⟨hC, fun c t n d ro σ e t' d' σ' h ρ w a rl m Q hi hg ht hd hr hQ => ?_⟩
   have h : AA P G (dx P G j) c t n d ro σ = .ok e t' d' σ' := h
   cases c with
   | skip => cases h; exact wpIn_skip (hQ ρ w a hi (dA.refl _ _ _) ht hd _ rfl)
   | label l => cases h; exact wpIn_label (hQ ρ w a hi (dA.refl _ _ _) ht hd _ rfl)
   | exit id => cases h; exact wpIn_exit (hQ ρ w a hi (dA.refl _ _ _) ht hd _ rfl)
   | ret => cases h; exact wpIn_ret (hQ ρ w a hi (dA.refl _ _ _) ht hd _ rfl)
   | region id ops draw =>
    cases draw with
    | false =>
     have h' : (bif kF ops.toList then zf P G ops n ro d t σ else tX d (pP P G (dx P G j) ops n d ops.toList t σ)) = .ok e t' d' σ' := h
     refine wpIn_region ?_
     rw [aN] at h'
     split at h'
     ·unfold zf at h'
      cases ro with
      | some _ => cases h'
      | none =>
       cases rl with
       | some _ => exact hr.elim
       | none =>
        have := jB hS.cx.ov (m := m) (Q := Q) ops.toList 0 rfl d t σ ρ w a h' hi hg ht hd hQ
        rw [List.range_eq_range']
        simpa using this
     have := qi hS rl (m := m) (Q := Q) ops.toList 0 rfl t σ ρ w a h' hi hg ht hd hQ
     rw [List.range_eq_range']
     simpa using this
    | true =>
     have h' : qU P G (dx P G j) ops n d t σ = .ok e t' d' σ' := h
     exact wpIn_region_any hm (yG hS h' hi hg ht hd rl m hQ)
   | seq x y =>
    have h' : tS (dx P G j x t n d ro σ) (fun t d σ => dx P G j y t n d ro σ) = .ok e t' d' σ' := h
    refine wpIn_seq ?_
    cases hx : dx P G j x t n d ro σ with
    | err q => rw [hx] at h'; cases h'
    | ok e₁ t₁ d₁ σ₁ =>
     rw [hx] at h'
     by_cases he : e₁ = .normal
     ·subst he
      refine hS.run x t n d ro σ _ t₁ d₁ σ₁ hx ρ w a rl m _ hi hg ht hd hr fun ρ₁ w₁ a₁ i₁ s₁ ht₁ hd₁ E hE => ?_
      have hE : E = .normal := hE
      subst hE
      have hle := s₁.le hi
      exact hS.run y t₁ n d₁ ro σ₁ e t' d' σ' h' ρ₁ w₁ a₁ rl m Q i₁ (hg.mono hle) ht₁ hd₁ (hr.mono hle) fun ρ' w' a' i' s' => hQ ρ' w' a' i' (s₁.trans s')
     ·have h'' : CR.ok e₁ t₁ d₁ σ₁ = .ok e t' d' σ' := by cases e₁ <;> first | exact absurd rfl he | exact h'
      cases h''
      exact hS.run x t n d ro σ _ _ _ _ hx ρ w a rl m _ hi hg ht hd hr fun ρ₁ w₁ a₁ i₁ s₁ ht₁ hd₁ => tB he (hQ ρ₁ w₁ a₁ i₁ s₁ ht₁ hd₁)
   | cond x y z =>
    have h' : uz (aX G t x) (dx P G j y t n d ro σ) (dx P G j z t n d ro σ) = .ok e t' d' σ' := h
    unfold uz at h'
    split at h'
    ·rename_i hv
     have := fc (a := a) hg ht hv
     simp only [VR] at this
     exact wpIn_cond_true this (hS.run y t n d ro σ e t' d' σ' h' ρ w a rl m Q hi hg ht hd hr hQ)
    ·rename_i hv
     have := fc (a := a) hg ht hv
     simp only [VR] at this
     exact wpIn_cond_false this (hS.run z t n d ro σ e t' d' σ' h' ρ w a rl m Q hi hg ht hd hr hQ)
    ·cases h'
   | block id x =>
    have h' : p7 id (dx P G j x t n d ro σ) = .ok e t' d' σ' := h
    refine wpIn_block ?_
    cases hx : dx P G j x t n d ro σ with
    | err q => rw [hx] at h'; cases h'
    | ok e₁ t₁ d₁ σ₁ =>
     rw [hx] at h'
     refine hS.run x t n d ro σ e₁ t₁ d₁ σ₁ hx ρ w a rl m _ hi hg ht hd hr fun ρ₁ w₁ a₁ i₁ s₁ ht₁ hd₁ E hE => ?_
     cases e₁ with
     | exit q =>
      have hE : E = .exit q := hE
      subst hE
      unfold p7 at h'
      dsimp only at h'
      rw [aN] at h'
      split at h'
      ·rename_i hq
       cases h'
       have := Nat.eq_of_beq_eq_true hq
       subst this
       simp only [Exit.inBlock, if_true]
       exact hQ ρ₁ w₁ a₁ i₁ s₁ ht₁ hd₁ _ rfl
      ·rename_i hq
       cases h'
       have hne : ¬ q = id := fun e => hq (by rw [e]; exact Nat.beq_refl id)
       simp only [Exit.inBlock, if_neg hne]
       exact hQ ρ₁ w₁ a₁ i₁ s₁ ht₁ hd₁ _ rfl
     | normal => have hE : E = .normal := hE; subst hE; cases h'; exact hQ ρ₁ w₁ a₁ i₁ s₁ ht₁ hd₁ _ rfl
     | goto q => have hE : E = .goto q := hE; subst hE; cases h'; exact hQ ρ₁ w₁ a₁ i₁ s₁ ht₁ hd₁ _ rfl
     | ret => have hE : E = .ret := hE; subst hE; cases h'; exact hQ ρ₁ w₁ a₁ i₁ s₁ ht₁ hd₁ _ rfl
     | gf v => cases h'; have h2 := hQ ρ₁ w₁ a₁ i₁ s₁ ht₁ hd₁ E hE; obtain ⟨y, rfl, _⟩ := hE; exact h2
   | scope x =>
    have h' : yD (dx P G j x t n d ro σ) = .ok e t' d' σ' := h
    refine zA ?_
    cases hx : dx P G j x t n d ro σ with
    | err q => rw [hx] at h'; cases h'
    | ok e₁ t₁ d₁ σ₁ =>
     rw [hx] at h'
     refine hS.run x t n d ro σ e₁ t₁ d₁ σ₁ hx ρ w a rl m _ hi hg ht hd hr fun ρ₁ w₁ a₁ i₁ s₁ ht₁ hd₁ E hE => ?_
     cases e₁ with
     | goto q => cases h'
     | normal => have hE : E = .normal := hE; subst hE; cases h'; exact hQ ρ₁ w₁ a₁ i₁ s₁ ht₁ hd₁ _ rfl
     | exit q => have hE : E = .exit q := hE; subst hE; cases h'; exact hQ ρ₁ w₁ a₁ i₁ s₁ ht₁ hd₁ _ rfl
     | ret => have hE : E = .ret := hE; subst hE; cases h'; exact hQ ρ₁ w₁ a₁ i₁ s₁ ht₁ hd₁ _ rfl
     | gf v => cases h'; have h2 := hQ ρ₁ w₁ a₁ i₁ s₁ ht₁ hd₁ E hE; obtain ⟨y, rfl, _⟩ := hE; exact h2
   | loop x =>
    refine wpIn_loop_ghost (fun i a₁ w₁ => i ≤ j + 1 ∧ ∃ t₁ d₁ σ₁ ρ₁, dx P G i (.loop x) t₁ n d₁ ro σ₁ = .ok e t' d' σ' ∧ Inv ρ₁ σ₁ w₁ ∧ dA ρ σ w ρ₁ σ₁ w₁ ∧ TR ρ₁ t₁ n a₁.tmps ∧ DR ρ₁ d₁ a₁.defers) (j + 1)
     ⟨Nat.le_refl _, t, d, σ, ρ, h, hi, dA.refl _ _ _, ht, hd⟩ fun i a₁ w₁ hI => ?_
    obtain ⟨hij, t₁, d₁, σ₁, ρ₁, hrun, i₁, s₁, ht₁, hd₁⟩ := hI
    have hle := s₁.le hi
    cases i with
    | zero => cases hrun
    | succ i =>
     have hSi := ihk i (by omega)
     have h' : tS (dx P G i x t₁ n d₁ ro σ₁) (fun t d σ => dx P G i (.loop x) t n d ro σ) = .ok e t' d' σ' := hrun
     cases hx : dx P G i x t₁ n d₁ ro σ₁ with
     | err q => rw [hx] at h'; cases h'
     | ok e₂ t₂ d₂ σ₂ =>
      rw [hx] at h'
      by_cases he : e₂ = .normal
      ·subst he
       refine hSi.run x t₁ n d₁ ro σ₁ _ t₂ d₂ σ₂ hx ρ₁ w₁ a₁ rl m _ i₁ (hg.mono hle) ht₁ hd₁ (hr.mono hle) fun ρ₂ w₂ a₂ i₂ s₂ ht₂ hd₂ E hE => ?_
       have hE : E = .normal := hE
       subst hE
       exact ⟨i, Nat.lt_succ_self i, by omega, t₂, d₂, σ₂, ρ₂, h', i₂, s₁.trans s₂, ht₂, hd₂⟩
      ·have h'' : CR.ok e₂ t₂ d₂ σ₂ = .ok e t' d' σ' := by cases e₂ <;> first | exact absurd rfl he | exact h'
       cases h''
       exact hSi.run x t₁ n d₁ ro σ₁ _ _ _ _ hx ρ₁ w₁ a₁ rl m _ i₁ (hg.mono hle) ht₁ hd₁ (hr.mono hle) fun ρ₂ w₂ a₂ i₂ s₂ ht₂ hd₂ => tB he (hQ ρ₂ w₂ a₂ i₂ (s₁.trans s₂) ht₂ hd₂)
   | rangeFunc g ps assign body => exact yc hS h hi hg ht hd hr hQ
   | _ => cases h
theorem nf (hm : P.follows .mixedOrders = true) (hC : xQ P G) {fuel f : Nat} {args : List AV} {σ σ' : av} {v : AV} (h : rY P G fuel f args σ = .ret v σ') {ρ : bN} {w : World} {xs : Array Value} (hi : Inv ρ σ w) (hg : GR ρ G) (hx : bX ρ args xs.toList)
  {R : Ending → World → Prop} (hR : ∀ (ρ' : bN) (w' : World) (x : Value), Inv ρ' σ' w' → dA ρ σ w ρ' σ' w' → VR ρ' v x → R (.returned x) w') : Calls P f xs w R :=
 callsIn_wide.1 (oJ (B0 hm hC fuel) h hi hg hx none 0 hR)
def σ0 : av := ⟨0, .leaf⟩
end
end Go.Ev
namespace Go.Ev
variable [Env]
open Go.ChangeShapes Go.WideShapes Go.ChangeAt Go.RowKit
theorem gN.kept {w w' : World} (h : gN w w') (may : MemPlace → Prop) : w.keptBut w' may := by
 refine ⟨h.os, h.out, fun i hi => ?_⟩
 rw [h.same i hi]
 cases w.heap[i]? with
 | none => rfl
 | some o => cases o <;> first | exact ⟨rfl, rfl, rfl, fun _ _ => rfl⟩ | exact .inr ⟨rfl, rfl⟩ | rfl
theorem gN.frozen {w w' : World} (h : gN w w') (a : Addr) (ha : a.block < w.heap.size) : w'.frozen? a = w.frozen? a := by
 unfold World.frozen?
 rw [h.same a.block ha]
theorem yE {H : Type} {enc : TypeId × Value → H} {P : Program} {f : Func} {s : ChangeSpec} {apart fresh handsOn again : Bool} {W W' : World} {args : Array Value} {v : Value} {ds gs : List (DataW H)} {before pa pv : List MemPlace}
  (hW : DataW.Whole enc P f.params.toList s.vars apart W args.toList ds gs before)
  (hres : ∀ (b : Nat) (sp : Nat → Bool) (hd : Bool), DataW.TrodAll enc P W' b sp hd f.resultTypes.toList (v.resultList f.resultTypes.size) (s.fn H (ds ++ gs)).results [])
  (hargs : ∀ sp : Nat → Bool, (∀ p ∈ before, sp p.block = true) → DataW.TrodAll enc P W' 0 sp true f.params.toList args.toList (s.fn H (ds ++ gs)).args pa)
  (hvars : ∀ sp : Nat → Bool, (∀ p ∈ before, sp p.block = true) → DataW.TrodVars enc P W' sp s.vars (s.fn H (ds ++ gs)).vars pv)
  (hps : before = pa ++ pv) (hk : gN W W')
  (hok : ∀ (j : Nat) (t : TypeId) (r : Value), f.resultTypes[j]? = some t → (v.resultList f.resultTypes.size)[j]? = some r → Value.okWide P W' .any 0 t r) :
  s.post enc P f apart fresh handsOn again W args v W' := by
 have hold : ∀ p ∈ before, (fun b => decide (b < W.heap.size)) p.block = true := fun p hp => by simpa using hW.lt p hp
 refine ⟨ds, gs, before, [], pa, pv, hW, hres _ _ _, hargs _ hold, hvars _ hold, hk.kept _, fun _ => ?_⟩
 have hlt := hW.lt
 obtain ⟨_, _, _, _, _, hz, hn⟩ := hW
 refine ⟨hok, _, _, ([] ++ pa) ++ pv, ⟨[] ++ pa, pv, trodAll_append (hargs _ (fun _ _ => rfl)) (hres _ _ _), hvars _ (fun _ _ => rfl), rfl, ?_, ?_⟩, ?_⟩
 ·intro b off hp
  have hp' : MemPlace.cell b off ∈ before := by rw [hps]; simpa using hp
  rw [hk.frozen _ (hlt _ hp')]
  exact hz b off hp'
 ·intro ha
  have := hn ha
  rw [hps] at this
  simpa using this
 ·intro p hp _
  rw [hps]
  simpa using hp
end Go.Ev
namespace Go.Ev
variable [Env]
structure IK where
 k : IntKind
 n : Int
structure PO where
 b : Pos
 off : Nat
structure SL where
 b : Pos
 off : Nat
 len : Nat
def GN : AV → Option IK
 | .int k n => some ⟨k, n⟩
 | _ => none
def HY : AV → Option PO
 | .ptr b off => some ⟨b, off⟩
 | _ => none
def Ie : AV → Option SL
 | .slice b off len _ => some ⟨b, off, len⟩
 | _ => none
def Iq : AV → Option Nat
 | .int _ (.ofNat i) => some i
 | _ => none
def Ip : AV → Option Bool
 | .bool b => some b
 | _ => none
def Im : AV → Option (List AV)
 | .tuple l => some l
 | _ => none
def rowOf : bF → Option (List AV)
 | .row cells _ _ => some cells
 | .own cells _ => some cells
 | _ => none
theorem wH {v : AV} {i : IK} (h : GN v = some i) : v = .int i.k i.n := by
 unfold GN at h; split at h
 ·cases h; rfl
 ·cases h
noncomputable def mw (σ : av) (e : Nat) (v : Option AV) : HR := Option.rec (motive := fun _ => HR) (.err e) (fun v => .val v σ) v
theorem jU (σ : av) (e : Nat) (v : Option AV) : mw σ e v = match v with | some v => .val v σ | none => .err e := by cases v <;> rfl
structure H3 where
 run : PT AV → Option AV
noncomputable def kZ (G : Cx) (x : Operand) : H3 :=
 match x with
 | .tmp k => bif Nat.ble k 255 then ⟨fun t => gK t.s k⟩ else ⟨fun t => t.get k⟩
 | .const v => ⟨fun _ => nY v⟩
 | .global g => ⟨fun _ => bif Nat.ble (Nat.succ g) G.gl then some (.ptr (posOf g) 0) else none⟩
 | .func f => ⟨fun _ => some (.func f [] [])⟩
theorem fS (G : Cx) (x : Operand) (t : PT AV) : (kZ G x).run t = aX G t x := by
 cases x with
 | tmp k =>
  show (bif Nat.ble k 255 then (⟨fun t => gK t.s k⟩ : H3) else ⟨fun t => t.get k⟩).run t = t.get k
  cases h : Nat.ble k 255 with
  | true => exact (PT.n7 t ((lU k 255).1 h)).symm
  | false => rfl
 | _ => rfl
structure H7 where
 run : AV → AV → Option AV
noncomputable def Dm (P : Program) (q : Bool) (o : BinOp) (ty : TypeId) (f : IntKind → Int → Int → AV) (a b : AV) : Option AV :=
 Option.rec (motive := fun _ => Option AV) (sc P q o ty a b) (fun i => Option.rec (motive := fun _ => Option AV) (sc P q o ty a b) (fun j => bif pe i.k j.k then some (f i.k i.n j.n) else none) (GN b)) (GN a)
theorem FY {P : Program} {q : Bool} {o : BinOp} {ty : TypeId} {f : IntKind → Int → Int → AV} (h : ∀ k x k' y, sc P q o ty (.int k x) (.int k' y) = bif pe k k' then some (f k x y) else none) (a b : AV) : Dm P q o ty f a b = sc P q o ty a b := by
 unfold Dm
 cases ha : GN a with
 | none => rfl
 | some i =>
  cases hb : GN b with
  | none => rfl
  | some j =>
   rw [wH ha, wH hb, h]
def Ij (_ : IntKind) (x y : Int) : AV := .bool (cd x y)
def H8 (_ : IntKind) (x y : Int) : AV := .bool (cd y x)
def Iy (_ : IntKind) (x y : Int) : AV := .bool (bif cd y x then false else true)
def Iv (_ : IntKind) (x y : Int) : AV := .bool (bif cd x y then false else true)
def Ig (_ : IntKind) (x y : Int) : AV := .bool (bk x y)
def Ii (_ : IntKind) (x y : Int) : AV := .bool (bif bk x y then false else true)
def HL (k : IntKind) (x y : Int) : AV := .int k (wr k (Int.add x y))
def HN (k : IntKind) (x y : Int) : AV := .int k (wr k (Int.sub x y))
def HW (k : IntKind) (x y : Int) : AV := .int k (wr k (Int.mul x y))
noncomputable def Hn (P : Program) (q : Bool) (o : BinOp) (ty : TypeId) : H7 :=
 match o with
 | .lss => ⟨Dm P q .lss ty Ij⟩
 | .gtr => ⟨Dm P q .gtr ty H8⟩
 | .leq => ⟨Dm P q .leq ty Iy⟩
 | .geq => ⟨Dm P q .geq ty Iv⟩
 | .eql => ⟨Dm P q .eql ty Ig⟩
 | .neq => ⟨Dm P q .neq ty Ii⟩
 | .add => ⟨Dm P q .add ty HL⟩
 | .sub => ⟨Dm P q .sub ty HN⟩
 | .mul => ⟨Dm P q .mul ty HW⟩
 | o => ⟨fun a b => sc P q o ty a b⟩
theorem FU (P : Program) (q : Bool) (o : BinOp) (ty : TypeId) (a b : AV) : (Hn P q o ty).run a b = sc P q o ty a b := by
 cases o <;> first | rfl | exact FY (fun _ _ _ _ => rfl) a b
noncomputable def G8 (c : H7) (x y : Option AV) : Option AV :=
 Option.rec (motive := fun _ => Option AV) none (fun a => Option.rec (motive := fun _ => Option AV) none (fun b => c.run a b) y) x
noncomputable def Ap (c a b : Option AV) : Option AV :=
 Option.rec (motive := fun _ => Option AV) none (fun c => Option.rec (motive := fun _ => Option AV) none (fun c => bif c then a else b) (Ip c)) c
noncomputable def Hk (i : Nat) (x : Option AV) : Option AV :=
 Option.rec (motive := fun _ => Option AV) none (fun x => Option.rec (motive := fun _ => Option AV) none (fun l => nth l i) (Im x)) x
noncomputable def Hz (ag : Option (Option Nat)) (cells : List AV) (off : Nat) : Option AV :=
 Option.rec (motive := fun _ => Option AV) none (fun o => Option.rec (motive := fun _ => Option AV) (nth cells off) (fun n => bif Nat.ble (Nat.add off n) (b0 cells) then some (.agg (takeN (cT cells off) n)) else none) o) ag
noncomputable def xE (ag : Option (Option Nat)) (σ : av) (x : Option AV) : Option AV :=
 Option.rec (motive := fun _ => Option AV) none (fun v => Option.rec (motive := fun _ => Option AV) none (fun p => Option.rec (motive := fun _ => Option AV) none
  (fun o => Option.rec (motive := fun _ => Option AV) none (fun cells => Hz ag cells p.off) (rowOf o)) (σ.m.get p.b)) (HY v)) x
noncomputable def m4 (P : Program) (s : TypeId) (i : Nat) : Option Nat :=
 match structOf P s with
 | some fs => match fs[i]? with
  | some f => match qS P f.type with
   | some j => bif Nat.beq j.size 0 then none else some f.offset
   | none => none
  | none => none
 | none => none
noncomputable def Hq (k : Option Nat) (x : Option AV) : Option AV :=
 Option.rec (motive := fun _ => Option AV) none (fun k => Option.rec (motive := fun _ => Option AV) none (fun v => Option.rec (motive := fun _ => Option AV) none (fun p => some (.ptr p.b (Nat.add p.off k))) (HY v)) x) k
structure IA where
 n : Option Nat
 sz : Nat
noncomputable def sE (P : Program) (t : TypeId) : Option IA :=
 match lI P t with
 | some (.slice e) => match qS P e with | some j => some ⟨none, j.size⟩ | none => none
 | some (.array n e) => match qS P e with | some j => some ⟨some n, j.size⟩ | none => none
 | _ => none
noncomputable def Hx (q : IA) (v : AV) (i : Nat) : Option AV :=
 Option.rec (motive := fun _ => Option AV)
  (Option.rec (motive := fun _ => Option AV) none (fun s => bif Nat.ble (Nat.succ i) s.len then some (.ptr s.b (Nat.add s.off (Nat.mul i q.sz))) else none) (Ie v))
  (fun n => Option.rec (motive := fun _ => Option AV) none (fun p => bif Nat.ble (Nat.succ i) n then some (.ptr p.b (Nat.add p.off (Nat.mul i q.sz))) else none) (HY v)) q.n
noncomputable def Hu (q : Option IA) (x i : Option AV) : Option AV :=
 Option.rec (motive := fun _ => Option AV) none (fun q => Option.rec (motive := fun _ => Option AV) none (fun v => Option.rec (motive := fun _ => Option AV) none
  (fun w => Option.rec (motive := fun _ => Option AV) none (fun i => Hx q v i) (Iq w)) i) x) q
structure HM where
 run : PT AV → av → HR
noncomputable def wR (P : Program) (G : Cx) (σ : av) (f : Option AV) (args : Option (List AV)) : HR :=
 Option.rec (motive := fun _ => HR) (.err 12) (fun g => Option.rec (motive := fun _ => HR) (.err 12) (fun args => uf P G.ov σ g args) args) f
noncomputable def Be (G : Cx) (l : List Operand) (t : PT AV) : Option (List AV) := bK (fun x => (kZ G x).run t) l
noncomputable def EP (P : Program) (G : Cx) (op : Op) : HM :=
 match op with
 | .move x => ⟨fun t σ => mw σ 1001 ((kZ G x).run t)⟩
 | .assign x => ⟨fun t σ => mw σ 1002 ((kZ G x).run t)⟩
 | .pick c a b => ⟨fun t σ => mw σ 1003 (Ap ((kZ G c).run t) ((kZ G a).run t) ((kZ G b).run t))⟩
 | .binOp o ty x y _ => ⟨fun t σ => mw σ 1014 (G8 (Hn P (uh x || uh y) o ty) ((kZ G x).run t) ((kZ G y).run t))⟩
 | .extract x i => ⟨fun t σ => mw σ 1036 (Hk i ((kZ G x).run t))⟩
 | .load ty x => ⟨fun t σ => mw σ 2009 (xE (da P ty) σ ((kZ G x).run t))⟩
 | .fieldAddr s x i => ⟨fun t σ => mw σ 1024 (Hq (m4 P s i) ((kZ G x).run t))⟩
 | .indexAddr ty x i => ⟨fun t σ => mw σ 1026 (Hu (sE P ty) ((kZ G x).run t) ((kZ G i).run t))⟩
 | .call c => match c.callee with
  | .value f => ⟨fun t σ => wR P G σ ((kZ G f).run t) (Be G c.args.toList t)⟩
  | _ => ⟨fun t σ => cZ P G (aX G t) σ (.call c)⟩
 | op => ⟨fun t σ => cZ P G (aX G t) σ op⟩
theorem DY (P : Program) (G : Cx) (op : Op) (t : PT AV) (σ : av) : (EP P G op).run t σ = cZ P G (aX G t) σ op := by
 cases op with
 | move x => show mw σ 1001 ((kZ G x).run t) = _; rw [fS, jU]; rfl
 | assign x => show mw σ 1002 ((kZ G x).run t) = _; rw [fS, jU]; rfl
 | pick c a b =>
  show mw σ 1003 (Ap ((kZ G c).run t) ((kZ G a).run t) ((kZ G b).run t)) = _
  rw [fS, fS, fS, jU]
  have : Ap (aX G t c) (aX G t a) (aX G t b) = cj P (aX G t) (.pick c a b) := by
   simp only [cj, Ap]
   cases aX G t c with
   | none => rfl
   | some v => cases v <;> first | rfl | (rename_i b; cases b <;> rfl)
  rw [this]; rfl
 | binOp o ty x y r =>
  show mw σ 1014 (G8 (Hn P (uh x || uh y) o ty) ((kZ G x).run t) ((kZ G y).run t)) = _
  rw [fS, fS, jU]
  have : G8 (Hn P (uh x || uh y) o ty) (aX G t x) (aX G t y) = cj P (aX G t) (.binOp o ty x y r) := by
   simp only [cj, G8]
   cases aX G t x with
   | none => rfl
   | some v =>
    cases aX G t y with
    | none => rfl
    | some u => exact FU P _ o ty v u
  rw [this]; rfl
 | extract x i =>
  show mw σ 1036 (Hk i ((kZ G x).run t)) = _
  rw [fS, jU]
  have : Hk i (aX G t x) = cj P (aX G t) (.extract x i) := by
   simp only [cj, Hk]
   cases aX G t x with
   | none => rfl
   | some v => cases v <;> rfl
  rw [this]; rfl
 | load ty x =>
  show mw σ 2009 (xE (da P ty) σ ((kZ G x).run t)) = _
  rw [fS, jU]
  have : xE (da P ty) σ (aX G t x) = eV P (aX G t) σ (.load ty x) := by
   simp only [eV, xE]
   cases aX G t x with
   | none => rfl
   | some v =>
    cases v <;> first | rfl | skip
    rename_i b off
    show Option.rec (motive := fun _ => Option AV) none _ (σ.m.get b) = _
    cases hb : σ.m.get b with
    | none => dsimp only; rw [hb]
    | some o =>
     dsimp only
     rw [hb]
     cases o <;> first | rfl | skip
     all_goals
      show Hz (da P ty) _ off = _
      unfold Hz
      cases da P ty with
      | none => rfl
      | some q => cases q <;> rfl
  rw [this]; rfl
 | fieldAddr s x i =>
  show mw σ 1024 (Hq (m4 P s i) ((kZ G x).run t)) = _
  rw [fS, jU]
  have : Hq (m4 P s i) (aX G t x) = cj P (aX G t) (.fieldAddr s x i) := by
   simp only [cj, m4, mJ]
   cases structOf P s with
   | none => rfl
   | some fs =>
    dsimp only
    cases hx : aX G t x with
    | none =>
     cases fs[i]? with
     | none => rfl
     | some f => dsimp only; cases P.info? f.type with
      | none => rfl
      | some j => dsimp only; cases Nat.beq j.size 0 <;> rfl
    | some v =>
     cases hf : fs[i]? with
     | none => cases v <;> first | rfl | (simp only [hf]; rfl)
     | some f =>
      dsimp only
      cases hj : P.info? f.type with
      | none => cases v <;> first | rfl | (simp only [hf, hj]; rfl)
      | some j =>
       dsimp only
       cases hz : Nat.beq j.size 0 <;> (cases v <;> first | rfl | (simp only [hf, hj, hz]; rfl))
  rw [this]; rfl
 | indexAddr ty x i =>
  show mw σ 1026 (Hu (sE P ty) ((kZ G x).run t) ((kZ G i).run t)) = _
  rw [fS, fS, jU]
  have : Hu (sE P ty) (aX G t x) (aX G t i) = cj P (aX G t) (.indexAddr ty x i) := by
   simp only [cj, sE, mJ, lC]
   cases hu : P.underlying ty with
   | none => rfl
   | some d =>
    cases d <;> first | rfl | skip
    all_goals
     dsimp only
     rename_i e
     cases hj : P.info? e with
     | none =>
      cases aX G t x with
      | none => rfl
      | some v => cases v <;> first | rfl | (cases aX G t i with
       | none => rfl
       | some u => cases u <;> first | rfl | (rename_i k n; cases n <;> first | rfl | (simp only [hj]; rfl)))
     | some j =>
      cases aX G t x with
      | none => rfl
      | some v => cases v <;> first | (cases aX G t i with
       | none => rfl
       | some u => cases u <;> first | rfl | (rename_i k n; cases n <;> first | rfl | (simp only [hj]; rfl)))
  rw [this]; rfl
 | call c =>
  cases hc : c.callee with
  | value f =>
   have h1 : (EP P G (.call c)).run t σ = wR P G σ ((kZ G f).run t) (Be G c.args.toList t) := by
    show (match c.callee with
     | .value f => (⟨fun t σ => wR P G σ ((kZ G f).run t) (Be G c.args.toList t)⟩ : HM)
     | _ => ⟨fun t σ => cZ P G (aX G t) σ (.call c)⟩).run t σ = _
    rw [hc]
   have h2 : cZ P G (aX G t) σ (.call c) = eI P G.ov (aX G t) σ (.call c) := by
    unfold cZ
    have : kindOf P (.call c) = .gi := by simp only [kindOf, hc]
    rw [this]
   have h3 : Be G c.args.toList t = pZ (aX G t) c.args.toList := by
    unfold Be pZ
    congr 1
    funext x
    exact fS G x t
   rw [h1, h2, fS, h3]
   simp only [eI, hc, wR]
   cases aX G t f with
   | none => rfl
   | some g => cases pZ (aX G t) c.args.toList <;> rfl
  | _ =>
   show (match c.callee with
     | .value f => (⟨fun t σ => wR P G σ ((kZ G f).run t) (Be G c.args.toList t)⟩ : HM)
     | _ => ⟨fun t σ => cZ P G (aX G t) σ (.call c)⟩).run t σ = _
   rw [hc]
 | _ => rfl
structure G0 where
 run : PT AV → AV → Nat → (PT AV → CR) → CR
structure Ir where
 run : AV → PT AV → PT AV
noncomputable def Cg (j : Nat) : Ir :=
 bif Nat.ble j 255 then ⟨fun v t => PT.rec (motive := fun _ => PT AV) (fun s m l => ⟨(sQ (Nat.div j 16)).run s ((sQ (Nat.mod j 16)).run ((gu (Nat.div j 16)).run s) (some v)), m, l⟩) t⟩
 else ⟨fun v t => t.put (some v) j⟩
theorem Gz (j : Nat) (v : AV) (t : PT AV) : (Cg j).run v t = t.put (some v) j := by
 unfold Cg
 cases h : Nat.ble j 255 with
 | true =>
  cases t with
  | mk s m l => exact (PT.ri (some v) s m l ((lU j 255).1 h)).symm
 | false => rfl
noncomputable def FL (j : Nat) (v : AV) (t : PT AV) : PT AV := (Cg j).run v t
theorem Er (j : Nat) (v : AV) (t : PT AV) : FL j v t = t.put (some v) j := Gz j v t
noncomputable def tR (n : Nat) (dst : Option Nat) : G0 :=
 match dst with
 | none => ⟨fun t _ _ k => k t⟩
 | some j => bif Nat.ble (Nat.succ j) n then ⟨fun t v _ k => k (FL j v t)⟩ else ⟨fun _ _ e _ => .err e⟩
theorem s5 (n : Nat) (dst : Option Nat) (t : PT AV) (v : AV) (e : Nat) (k : PT AV → CR) : (tR n dst).run t v e k = match cK t n dst v with | some t' => k t' | none => .err e := by
 cases dst with
 | none => rfl
 | some j =>
  show (bif Nat.ble (Nat.succ j) n then (⟨fun t v _ k => k (FL j v t)⟩ : G0) else ⟨fun _ _ e _ => .err e⟩).run t v e k = _
  show _ = match (bif Nat.ble (Nat.succ j) n then some (t.put (some v) j) else none) with | some t' => k t' | none => .err e
  rw [← Er]
  cases Nat.ble (Nat.succ j) n <;> rfl
structure Il where
 run : fP → List AV → av → KR
noncomputable def HQ (P : Program) (G : Cx) (ih : fP) (fn : Func) (r : CR) : KR :=
 match r with
 | .ok .normal t d σ => ua P G ih fn .ret t d σ
 | .ok .ret t d σ => ua P G ih fn .ret t d σ
 | .ok (.gf v) t d σ => ua P G ih fn (.gf v) t d σ
 | .err k => .err k
 | _ => .err 72
noncomputable def FQ (P : Program) (G : Cx) (fn : Func) (c : Code) (ih : fP) (args : List AV) (σ : av) : KR :=
 Option.rec (motive := fun _ => KR) (.err 73) (fun t => HQ P G ih fn (ih c t fn.ntmps [] none σ)) (mB fn.ntmps args)
noncomputable def HS (P : Program) (G : Cx) (f : Nat) : Il :=
 match nth P.funcs.toList f with
 | some fn => match fn.body with
  | some c => ⟨FQ P G fn c⟩
  | none => ⟨fun _ _ _ => .err 73⟩
 | none => ⟨fun _ _ _ => .err 74⟩
theorem Gr (P : Program) (G : Cx) (f : Nat) (ih : fP) (args : List AV) (σ : av) : (HS P G f).run ih args σ = iv P G ih f args σ := by
 unfold HS iv
 rw [dO, Array.getElem?_toList]
 cases P.funcs[f]? with
 | none => rfl
 | some fn =>
  dsimp only
  cases hb : fn.body with
  | none => rfl
  | some c =>
   dsimp only
   show FQ P G fn c ih args σ = _
   unfold FQ
   cases mB fn.ntmps args with
   | none => rfl
   | some t => rfl
noncomputable def xa (P : Program) (G : Cx) (ih : fP) (f : Nat) (args : List AV) (σ : av) : KR :=
 Option.rec (motive := fun _ => KR) (Option.rec (motive := fun _ => KR) (Option.rec (motive := fun _ => KR) (Option.rec (motive := fun _ => KR) (bif G.fk f then oB (mM P G ih f args σ) else (HS P G f).run ih args σ) (fun c => .err c) (G.stop f args σ)) (fun e => .ret e.v (xg σ e)) (rT G.gl G.laid G.mem f args σ)) (fun v => bif dz args && (jm v && hX G.gl σ G.laid) then .ret v σ else .err 79) (G.Ch f args)) (fun v => bif jm v then .ret v σ else .err 78) (G.Cf f args σ)
theorem wI (P : Program) (G : Cx) (ih : fP) (f : Nat) (args : List AV) (σ : av) : xa P G ih f args σ = iD P G ih f args σ := by
 unfold xa iD
 rw [Gr]
 cases G.Cf f args σ with
 | some v => rfl
 | none =>
 dsimp only
 cases G.Ch f args with
 | some v => rfl
 | none =>
  dsimp only
  cases rT G.gl G.laid G.mem f args σ with
  | some e => rfl
  | none =>
   dsimp only
   cases G.stop f args σ <;> rfl
structure E4 where
 run : fP → PT AV → av → (PT AV → av → CR) → CR
noncomputable def Ec (k : PT AV → av → CR) (σ : av) (t : PT AV) : CR := k t σ
noncomputable def Hs (pn : Bool) (c : G0) (t : PT AV) (k : PT AV → av → CR) (r : KR) : CR :=
 KR.rec (motive := fun _ => CR) (fun v σ => c.run t v 80 (Ec k σ)) (fun v σ => EW pn v t σ) (fun e => .err e) r
noncomputable def EN (P : Program) (G : Cx) (ih : fP) (pn : Bool) (c : G0) (t : PT AV) (k : PT AV → av → CR) (r : HR) : CR :=
 HR.rec (motive := fun _ => CR) (fun v σ => c.run t v 80 (Ec k σ)) (fun σ => c.run t unit 80 (Ec k σ)) (fun f args σ => Hs pn c t k (xa P G ih f args σ)) (fun l args σ => Hs pn c t k (ma ih l args σ)) (fun v σ => EW pn v t σ) (fun e => .err e) r
noncomputable def DC (ops : Array Oper) (o : Oper) (c : G0) (t : PT AV) (σ : av) (k : PT AV → av → CR) (go : CR) (w : Option Bool) : CR :=
 Option.rec (motive := fun _ => CR) (.err 85) (fun b => bif b then go else c.run t unit 84 (Ec k σ)) w
noncomputable def Hy (P : Program) (G : Cx) (j : Nat) (op : Op) : Option E4 :=
 match op with
 | .move x => some ⟨fun _ t σ k => Option.rec (motive := fun _ => CR) (.err 1001) (fun v => k ((Cg j).run v t) σ) ((kZ G x).run t)⟩
 | .assign x => some ⟨fun _ t σ k => Option.rec (motive := fun _ => CR) (.err 1002) (fun v => k ((Cg j).run v t) σ) ((kZ G x).run t)⟩
 | .binOp o ty x y _ => some ⟨fun _ t σ k => Option.rec (motive := fun _ => CR) (.err 1014) (fun v => k ((Cg j).run v t) σ) (G8 (Hn P (uh x || uh y) o ty) ((kZ G x).run t) ((kZ G y).run t))⟩
 | .extract x i => some ⟨fun _ t σ k => Option.rec (motive := fun _ => CR) (.err 1036) (fun v => k ((Cg j).run v t) σ) (Hk i ((kZ G x).run t))⟩
 | .load ty x => some ⟨fun _ t σ k => Option.rec (motive := fun _ => CR) (.err 2009) (fun v => k ((Cg j).run v t) σ) (xE (da P ty) σ ((kZ G x).run t))⟩
 | .fieldAddr s x i => some ⟨fun _ t σ k => Option.rec (motive := fun _ => CR) (.err 1024) (fun v => k ((Cg j).run v t) σ) (Hq (m4 P s i) ((kZ G x).run t))⟩
 | .indexAddr ty x i => some ⟨fun _ t σ k => Option.rec (motive := fun _ => CR) (.err 1026) (fun v => k ((Cg j).run v t) σ) (Hu (sE P ty) ((kZ G x).run t) ((kZ G i).run t))⟩
 | _ => none
theorem Ga {P : Program} {G : Cx} {pn : Bool} {n j : Nat} (hj : Nat.ble (Nat.succ j) n = true) {op : Op} {c : E4} (h : Hy P G j op = some c) (ih : fP) (t : PT AV) (σ : av) (k : PT AV → av → CR) :
  c.run ih t σ k = EN P G ih pn (tR n (some j)) t k ((EP P G op).run t σ) := by
 have key : ∀ (e : Nat) (x : Option AV), Option.rec (motive := fun _ => CR) (.err e) (fun v => k ((Cg j).run v t) σ) x = EN P G ih pn (tR n (some j)) t k (mw σ e x) := by
  intro e x
  cases x with
  | none => rfl
  | some v =>
   show k ((Cg j).run v t) σ = (tR n (some j)).run t v 80 (Ec k σ)
   unfold tR
   dsimp only
   rw [hj]
   rfl
 cases op <;> first | (cases h; done) | (cases h; exact key _ _)
noncomputable def Ht (P : Program) (G : Cx) (pn : Bool) (n : Nat) (o : Oper) : E4 :=
 match o.dst with
 | some j => bif Nat.ble (Nat.succ j) n then (match Hy P G j o.op with | some c => c | none => ⟨fun ih t σ k => EN P G ih pn (tR n (some j)) t k ((EP P G o.op).run t σ)⟩) else ⟨fun ih t σ k => EN P G ih pn (tR n (some j)) t k ((EP P G o.op).run t σ)⟩
 | none => ⟨fun ih t σ k => EN P G ih pn (tR n none) t k ((EP P G o.op).run t σ)⟩
theorem F0 (P : Program) (G : Cx) (pn : Bool) (n : Nat) (o : Oper) (ih : fP) (t : PT AV) (σ : av) (k : PT AV → av → CR) : (Ht P G pn n o).run ih t σ k = EN P G ih pn (tR n o.dst) t k ((EP P G o.op).run t σ) := by
 unfold Ht
 cases hd : o.dst with
 | none => rfl
 | some j =>
  dsimp only
  cases hj : Nat.ble (Nat.succ j) n with
  | false => rfl
  | true =>
   simp only [cond_true]
   cases hv : Hy P G j o.op with
   | none => rfl
   | some c => exact Ga hj hv ih t σ k
noncomputable def Ee (P : Program) (G : Cx) (pn : Bool) (ops : Array Oper) (n : Nat) (o : Oper) : E4 :=
 match o.guard with
 | none => Ht P G pn n o
 | some _ => ⟨fun ih t σ k => DC ops o (tR n o.dst) t σ k (EN P G ih pn (tR n o.dst) t k ((EP P G o.op).run t σ)) (bj ops t o)⟩
theorem DD (P : Program) (G : Cx) (ih : fP) (pn : Bool) (n : Nat) (dst : Option Nat) (t : PT AV) (k : PT AV → av → CR) (r : HR) :
  EN P G ih pn (tR n dst) t k r = match iT P G ih r with | .ret v σ' => (match cK t n dst v with | some t' => k t' σ' | none => .err 80) | .gf v σ' => EW pn v t σ' | .err e => .err e := by
 cases r with
 | val v σ => show (tR n dst).run t v 80 (Ec k σ) = _; rw [s5]; rfl
 | skip σ => show (tR n dst).run t unit 80 (Ec k σ) = _; rw [s5]; rfl
 | enter f args σ =>
  show Hs pn (tR n dst) t k (xa P G ih f args σ) = _
  rw [wI]
  show _ = match iD P G ih f args σ with | .ret v σ' => _ | .gf v σ' => _ | .err e => _
  cases iD P G ih f args σ with
  | ret v σ' => show (tR n dst).run t v 80 (Ec k σ') = _; rw [s5]; rfl
  | gf v σ' => rfl
  | err e => rfl
 | round l args σ =>
  show Hs pn (tR n dst) t k (ma ih l args σ) = _
  show _ = match ma ih l args σ with | .ret v σ' => _ | .gf v σ' => _ | .err e => _
  cases ma ih l args σ with
  | ret v σ' => show (tR n dst).run t v 80 (Ec k σ') = _; rw [s5]; rfl
  | gf v σ' => rfl
  | err e => rfl
 | gf v σ => rfl
 | err e => rfl
theorem zG (P : Program) (G : Cx) (pn : Bool) (ops : Array Oper) (n : Nat) (o : Oper) (ih : fP) (t : PT AV) (σ : av) (k : PT AV → av → CR) : (Ee P G pn ops n o).run ih t σ k = gg P G ih pn ops n o t σ k := by
 unfold Ee gg
 cases hg : o.guard with
 | none =>
  have : bj ops t o = some true := by unfold bj; rw [hg]
  rw [this]
  show (Ht P G pn n o).run ih t σ k = _
  rw [F0, DD, DY]
  all_goals rfl
 | some jw =>
  show DC ops o (tR n o.dst) t σ k (EN P G ih pn (tR n o.dst) t k ((EP P G o.op).run t σ)) (bj ops t o) = _
  rw [DD, DY]
  unfold DC
  cases bj ops t o with
  | none => rfl
  | some b =>
   cases b with
   | true => rfl
   | false => show (tR n o.dst).run t unit 84 (Ec k σ) = _; rw [s5]; rfl
noncomputable def DV (P : Program) (G : Cx) (ops : Array Oper) (n : Nat) (l : List Oper) : E4 :=
 List.rec (motive := fun _ => E4) ⟨fun _ t σ k => k t σ⟩ (fun o _ c => ⟨fun ih t σ k => (Ee P G true ops n o).run ih t σ (fun t σ => c.run ih t σ k)⟩) l
noncomputable def sV (d : List DE) (t : PT AV) (σ : av) : CR := .ok .normal t d σ
theorem AF (P : Program) (G : Cx) (ops : Array Oper) (n : Nat) (ih : fP) (d : List DE) : ∀ (l : List Oper) (t : PT AV) (σ : av), (DV P G ops n l).run ih t σ (sV d) = pP P G ih ops n d l t σ
 | [], t, σ => rfl
 | o :: l, t, σ => by
  show (Ee P G true ops n o).run ih t σ (fun t σ => (DV P G ops n l).run ih t σ (sV d)) = gg P G ih true ops n o t σ (pP P G ih ops n d l)
  rw [zG]
  congr 1
  funext t' σ'
  exact AF P G ops n ih d l t' σ'
noncomputable def we (P : Program) (G : Cx) (ops : Array Oper) (rc : List Nat) (k : PT AV → av → CR) (t : PT AV) (σ : av) : CR := bif cH P G ops t σ rc then k t σ else .err 86
noncomputable def tq (P : Program) (G : Cx) (ops : Array Oper) (n : Nat) (l : List (Nat × List Nat)) : E4 :=
 List.rec (motive := fun _ => E4) ⟨fun _ t σ k => k t σ⟩ (fun p _ c => match nth ops.toList p.1 with
  | some o => (match p.2 with
   | [] => ⟨fun ih t σ k => (Ee P G false ops n o).run ih t σ (fun t σ => c.run ih t σ k)⟩
   | rc => ⟨fun ih t σ k => (Ee P G false ops n o).run ih t σ (we P G ops rc (fun t σ => c.run ih t σ k))⟩)
  | none => ⟨fun _ _ _ _ => .err 87⟩) l
theorem sH (P : Program) (G : Cx) (ops : Array Oper) (n : Nat) (ih : fP) (d : List DE) : ∀ (l : List (Nat × List Nat)) (t : PT AV) (σ : av), (tq P G ops n l).run ih t σ (sV d) = gO P G ih ops n d l t σ
 | [], t, σ => rfl
 | (i, rc) :: l, t, σ => by
  show (match nth ops.toList i with
   | some o => (match rc with
    | [] => (⟨fun ih t σ k => (Ee P G false ops n o).run ih t σ (fun t σ => (tq P G ops n l).run ih t σ k)⟩ : E4)
    | rc => ⟨fun ih t σ k => (Ee P G false ops n o).run ih t σ (we P G ops rc (fun t σ => (tq P G ops n l).run ih t σ k))⟩)
   | none => ⟨fun _ _ _ _ => .err 87⟩).run ih t σ (sV d) = (match ops[i]? with
   | some o => gg P G ih false ops n o t σ (fun t' σ' => bif cH P G ops t' σ' rc then gO P G ih ops n d l t' σ' else .err 86)
   | none => .err 87)
  rw [dO, Array.getElem?_toList]
  cases ops[i]? with
  | none => rfl
  | some o =>
   dsimp only
   cases rc with
   | nil =>
    show (Ee P G false ops n o).run ih t σ (fun t σ => (tq P G ops n l).run ih t σ (sV d)) = _
    rw [zG]
    congr 1
    funext t' σ'
    exact sH P G ops n ih d l t' σ'
   | cons q rc =>
    show (Ee P G false ops n o).run ih t σ (we P G ops (q :: rc) (fun t σ => (tq P G ops n l).run ih t σ (sV d))) = _
    rw [zG]
    congr 1
    funext t' σ'
    unfold we
    dsimp only
    rw [sH P G ops n ih d l t' σ']
structure HD where
 run : fP → PT AV → List DE → Option Pos → av → CR
noncomputable def HB (P : Program) (G : Cx) (c : Code) (n : Nat) : HD :=
 match c with
 | .skip | .label _ => ⟨fun _ t d _ σ => .ok .normal t d σ⟩
 | .region _ ops draw => bif draw then (bif oS P ops then ⟨fun ih t d _ σ => (tq P G ops n (qg P ops)).run ih t σ (sV d)⟩ else ⟨fun _ _ _ _ _ => .err 88⟩)
   else (bif kF ops.toList then ⟨fun _ t d ro σ => zf P G ops n ro d t σ⟩ else ⟨fun ih t d _ σ => tX d ((DV P G ops n ops.toList).run ih t σ (sV d))⟩)
 | .seq a b => ⟨fun ih t d ro σ => tS (ih a t n d ro σ) (fun t d σ => ih b t n d ro σ)⟩
 | .cond x a b => ⟨fun ih t d ro σ => uz ((kZ G x).run t) (ih a t n d ro σ) (ih b t n d ro σ)⟩
 | .block id b => ⟨fun ih t d ro σ => p7 id (ih b t n d ro σ)⟩
 | .scope b => ⟨fun ih t d ro σ => yD (ih b t n d ro σ)⟩
 | .loop b => ⟨fun ih t d ro σ => tS (ih b t n d ro σ) (fun t d σ => ih (.loop b) t n d ro σ)⟩
 | .exit id => ⟨fun _ t d _ σ => .ok (.exit id) t d σ⟩
 | .ret => ⟨fun _ t d _ σ => .ok .ret t d σ⟩
 | .rangeFunc g ps assign body => ⟨fun ih t d ro σ => vU P G ih g ps assign body t n d ro σ⟩
 | _ => ⟨fun _ _ _ _ _ => .err 99⟩
theorem GD (P : Program) (G : Cx) (c : Code) (n : Nat) (ih : fP) (t : PT AV) (d : List DE) (ro : Option Pos) (σ : av) : (HB P G c n).run ih t d ro σ = AA P G ih c t n d ro σ := by
 cases c with
 | region id ops draw =>
  cases draw with
  | false =>
   show (bif kF ops.toList then (⟨fun _ t d ro σ => zf P G ops n ro d t σ⟩ : HD) else ⟨fun ih t d _ σ => tX d ((DV P G ops n ops.toList).run ih t σ (sV d))⟩).run ih t d ro σ = bif kF ops.toList then zf P G ops n ro d t σ else tX d (pP P G ih ops n d ops.toList t σ)
   cases kF ops.toList with
   | true => rfl
   | false =>
    show tX d ((DV P G ops n ops.toList).run ih t σ (sV d)) = tX d (pP P G ih ops n d ops.toList t σ)
    rw [AF]
  | true =>
   show (bif oS P ops then (⟨fun ih t d _ σ => (tq P G ops n (qg P ops)).run ih t σ (sV d)⟩ : HD) else ⟨fun _ _ _ _ _ => .err 88⟩).run ih t d ro σ = qU P G ih ops n d t σ
   unfold qU
   cases oS P ops with
   | false => rfl
   | true => exact sH P G ops n ih d (qg P ops) t σ
 | cond x a b => show uz ((kZ G x).run t) _ _ = _; rw [fS]; rfl
 | _ => rfl
noncomputable def GB (P : Program) (G : Cx) (fuel : Nat) : fP := Nat.rec (motive := fun _ => fP) (fun _ _ _ _ _ _ => .err 100) (fun _ ih c t n d ro σ => (HB P G c n).run ih t d ro σ) fuel
theorem AP (P : Program) (G : Cx) : ∀ (fuel : Nat), GB P G fuel = dx P G fuel
 | 0 => rfl
 | k + 1 => by
  funext c t n d ro σ
  show (HB P G c n).run (GB P G k) t d ro σ = AA P G (dx P G k) c t n d ro σ
  rw [GD, AP P G k]
noncomputable def xj (P : Program) (G : Cx) (fuel : Nat) (f : Nat) (args : List AV) (σ : av) : KR := xa P G (GB P G fuel) f args σ
theorem C6 (P : Program) (G : Cx) (fuel : Nat) (f : Nat) (args : List AV) (σ : av) : xj P G fuel f args σ = rY P G fuel f args σ := by
 unfold xj rY
 rw [wI, AP]
end Go.Ev
namespace Go.Ev
variable [Env]
open Go.ChangeShapes Go.WideShapes Go.ChangeAt Go.RowKit
noncomputable def uQ (one : TypeId → DataW Unit → Option (List Value)) (P : Program) : List (Nat × TypeId) → Nat → List (DataW Unit) → Option (List Value)
 | [], _, [] => some []
 | (o, t) :: l, off, d :: ds =>
  match one t d, uQ one P l (off + P.cellsOf t) ds with
  | some vs, some us => if o = off ∧ vs.length = P.cellsOf t then some (vs ++ us) else none
  | _, _ => none
 | _, _, _ => none
noncomputable def og (P : Program) : Nat → TypeId → DataW Unit → Option (List Value)
 | 0, _, _ => none
 | n + 1, t, d =>
  match P.underlying t, d with
  | some .bool, .lit (.bool b) => some [.bool b]
  | some (.int k), .lit (.int k' i) => if k' = k then some [.int k i] else none
  | some (.struct fs), .agg ps => match uQ (og P n) P (fs.toList.map fun f => (f.offset, f.type)) 0 ps with
   | some vs => if vs.length = P.cellsOf t then some vs else none
   | none => none
  | some (.array m e), .agg ps => match uQ (og P n) P ((List.range m).map fun i => (i * P.cellsOf e, e)) 0 ps with
   | some vs => if vs.length = P.cellsOf t then some vs else none
   | none => none
  | _, _ => none
theorem sZ {P : Program} {w : World} {base : Nat} {sp : Nat → Bool} {held : Bool} {fuel : Nat} {one : TypeId → DataW Unit → Option (List Value)} {cs : List Value}
  (ih : ∀ t l d p vs, DataW.trod (fun _ => ()) P w base sp held fuel t l = some (d, p) → one t d = some vs → l = vs) {α : Type} (g : α → Nat × TypeId) :
  ∀ (l : List α) (off : Nat) (xs : List (DataW Unit × List MemPlace)) (vs : List Value),
   (l.mapM fun x => DataW.trod (fun _ => ()) P w base sp held fuel (g x).2 ((cs.drop (g x).1).take (P.cellsOf (g x).2))) = some xs → uQ one P (l.map g) off (xs.map (·.1)) = some vs →
   (cs.drop off).take vs.length = vs
 | [], off, xs, vs, h, hf => by
  simp at h; subst h
  simp [uQ] at hf; subst hf; simp
 | x :: l, off, xs, vs, h, hf => by
  simp only [List.mapM_cons, Option.bind_eq_bind, Option.bind_eq_some_iff, Option.pure_def, Option.some.injEq] at h
  obtain ⟨⟨d, p⟩, h1, r, h2, rfl⟩ := h
  simp only [List.map_cons, uQ] at hf
  split at hf
  ·rename_i v1 v2 e1 e2
   split at hf
   ·rename_i hc
    obtain ⟨ho, hl⟩ := hc
    cases hf
    have k1 := ih _ _ _ _ _ h1 e1
    have k2 := sZ ih g l _ r v2 h2 e2
    rw [List.length_append, List.take_add, hl, List.drop_drop, k2, ← ho, k1]
   ·cases hf
  ·cases hf
theorem xG {P : Program} {w : World} {base : Nat} {sp : Nat → Bool} {held : Bool} : ∀ (m fuel : Nat) (t : TypeId) (cs : List Value) (d : DataW Unit) (p : List MemPlace) (vs : List Value),
  DataW.trod (fun _ => ()) P w base sp held fuel t cs = some (d, p) → og P m t d = some vs → cs = vs
 | 0, _, _, _, _, _, _, _, h => by cases h
 | _ + 1, 0, _, _, _, _, _, h, _ => by simp [DataW.trod] at h
 | m + 1, fuel + 1, t, cs, d, p, vs, h, hf => by
  have ih : ∀ t l d p vs, DataW.trod (fun _ => ()) P w base sp held fuel t l = some (d, p) → og P m t d = some vs → l = vs := fun t l d p vs => xG m fuel t l d p vs
  simp only [og] at hf
  split at hf
  ·rename_i hu
   cases hf
   unfold DataW.trod at h
   rw [hu] at h
   split at h <;> simp_all
  ·rename_i hu
   split at hf
   ·rename_i hk
    cases hf
    unfold DataW.trod at h
    rw [hu] at h
    split at h <;> simp_all
   ·cases hf
  ·rename_i fs ps hu
   split at hf
   ·rename_i vs' hg
    split at hf
    ·rename_i hl
     cases hf
     unfold DataW.trod at h
     rw [hu] at h
     dsimp only at h
     split at h
     ·rename_i hcl
      obtain ⟨xs, hm, hx⟩ := Option.map_eq_some_iff.1 h
      have hps : ps = xs.map (·.1) := by have := congrArg Prod.fst hx; simpa using this.symm
      subst hps
      have := sZ (cs := cs) ih (fun f : Field => (f.offset, f.type)) fs.toList 0 xs vs hm hg
      rw [List.drop_zero, hl, ← hcl, List.take_length] at this
      exact this
     ·cases h
    ·cases hf
   ·cases hf
  ·rename_i n e ps hu
   split at hf
   ·rename_i vs' hg
    split at hf
    ·rename_i hl
     cases hf
     unfold DataW.trod at h
     rw [hu] at h
     dsimp only at h
     split at h
     ·rename_i hcl
      obtain ⟨xs, hm, hx⟩ := Option.map_eq_some_iff.1 h
      have hps : ps = xs.map (·.1) := by have := congrArg Prod.fst hx; simpa using this.symm
      subst hps
      have := sZ (cs := cs) ih (fun i : Nat => (i * P.cellsOf e, e)) (List.range n) 0 xs vs hm hg
      rw [List.drop_zero, hl, ← hcl, List.take_length] at this
      exact this
     ·cases h
    ·cases hf
   ·cases hf
  ·cases hf
theorem lT {P : Program} {w : World} {l : List (String × DataW Unit)} (n : String) {d : DataW Unit} {g : Nat} {t : TypeId} {m : Nat} {vs : List Value}
  (h : laidMetH P l w) (hl : l.filter (fun x => x.1 == n) = [(n, d)]) (hd : d.handleName? = none) (hg : P.globalNamed n = some g) (ht : (P.globals[g]?).map (·.type) = some t) (hf : og P m t d = some vs) :
  ∃ e fr, w.heap[g]? = some (.cells vs.toArray e fr) := by
 have h1 := h.filter fun x => x.1 == n
 rw [hl] at h1
 have h2 : laidMet P [(n, d)] w := by
  unfold laidMetH at h1
  simp only [List.filter_cons, hd, List.filter_nil, Option.isSome_none] at h1
  exact h1
 obtain ⟨ps, ⟨g', t', cs, fuel, p, q, k1, k2, k3, k4, _, _⟩, _, _⟩ := h2
 rw [hg] at k1; cases k1
 rw [ht] at k2; cases k2
 have k5 := xG m fuel t cs.toList d p vs k4 hf
 unfold World.var? at k3
 rw [hg] at k3
 simp only [Option.bind_some] at k3
 split at k3
 ·rename_i cs' e fr hh
  cases k3
  exact ⟨e, fr, by rw [hh, ← k5]⟩
 ·cases k3
theorem tz {α β : Type} {f : α → Option β} : ∀ {l : List α} {r : List β}, bK f l = some r → r.length = l.length ∧ ∀ (i : Nat) (v : β), r[i]? = some v → ∃ y, l[i]? = some y ∧ f y = some v
 | [], r, h => by
  rw [fu] at h; cases h
  exact ⟨rfl, fun i v hv => by simp at hv⟩
 | x :: l, r, h => by
  obtain ⟨y, r', h1, h2, rfl⟩ := eW h
  obtain ⟨k1, k2⟩ := tz h2
  refine ⟨by simp [k1], fun i v hv => ?_⟩
  cases i with
  | zero => simp at hv; subst hv; exact ⟨x, rfl, h1⟩
  | succ i =>
   simp only [List.getElem?_cons_succ] at hv ⊢
   exact k2 i v hv
theorem iI.of {w : World} {g : Nat} {cells : List AV} {vs : List Value} {e : TypeId} {fr : Nat × Nat} (hb : w.heap[g]? = some (.cells vs.toArray e fr)) (hv : bK gU vs = some cells) : iI w (g, cells) := by
 obtain ⟨k1, k2⟩ := tz hv
 refine ⟨vs.toArray, e, fr, hb, by simp [k1], fun i v hi => ?_⟩
 obtain ⟨y, hy, hv'⟩ := k2 i v hi
 exact ⟨y, by simpa using hy, lL hv'⟩
noncomputable def σG (gl : Nat) (l : List (Nat × List AV)) (E : Nat → TypeId) : av := ⟨gl, zH l E⟩
theorem σG_get {gl : Nat} {l : List (Nat × List AV)} {E : Nat → TypeId} {b : Nat} {o : bF} (h : (σG gl l E).m.get b = some o) : ∃ x ∈ l, x.1 = b ∧ o = .row x.2 (E x.1) true := tI E h
def qb (w : World) (b : Nat) : Nat :=
 match w.heap[b]? with
 | some (.cells cs _ _) => cs.size
 | _ => 0
def elemAt (w : World) (b : Nat) : TypeId :=
 match w.heap[b]? with
 | some (.cells _ e _) => e
 | _ => 0
def ρG (w : World) (gl : Nat) : bN := fun b => if b < gl then some ⟨b, 0, qb w b⟩ else none
theorem ρG_some {w : World} {gl : Nat} {b : Nat} {l : Loc} (h : ρG w gl b = some l) : b < gl ∧ l = ⟨b, 0, qb w b⟩ := by
 unfold ρG at h
 split at h
 ·rename_i hb; cases h; exact ⟨hb, rfl⟩
 ·cases h
noncomputable def vS (gl : Nat) (l : List (Nat × List AV)) : Bool := l.all fun x => Nat.blt x.1 gl && dz x.2
theorem G5 {w : World} {gl : Nat} {l : List (Nat × List AV)} (ho : Dp w) (hgl : gl ≤ w.heap.size) (hwf : vS gl l = true) (hl : ∀ x ∈ l, iI w x) : Inv (ρG w gl) (σG gl l (elemAt w)) w := by
 have hwf' : ∀ x ∈ l, x.1 < gl ∧ dz x.2 = true := fun x hx => by
  have := List.all_eq_true.1 hwf x hx
  rw [Bool.and_eq_true, pg] at this
  exact this
 refine ⟨⟨fun b hb => ?_, fun b l' h => ?_, fun b o l' h1 h2 => ?_, fun b b' o o' l1 l2 h1 h2 h3 h4 he hne => ?_⟩, ho.1, ho.2, fun r _ ⟨b, o, l', h1, h2, _, _⟩ => by
  obtain ⟨x, _, _, rfl⟩ := σG_get h1
  cases h2⟩
 ·have hb' : ¬ b < gl := Nat.not_lt.2 hb
  refine ⟨by unfold ρG; rw [if_neg hb'], ?_⟩
  cases h : (σG gl l (elemAt w)).m.get b with
  | none => rfl
  | some o =>
   obtain ⟨x, hx, rfl, _⟩ := σG_get h
   exact absurd (hwf' x hx).1 hb'
 ·obtain ⟨hb, rfl⟩ := ρG_some h
  exact Nat.lt_of_lt_of_le hb hgl
 ·obtain ⟨x, hx, rfl, rfl⟩ := σG_get h1
  obtain ⟨hb, rfl⟩ := ρG_some h2
  obtain ⟨c, e, fr, k1, k2, k3⟩ := hl x hx
  have hs : qb w x.1 = c.size := by unfold qb; rw [k1]
  have he : elemAt w x.1 = e := by unfold elemAt; rw [k1]
  refine ⟨_, k1, c, fr, by rw [he], ?_, ?_, fun i v hv => ?_, fun h => by cases h⟩
  ·simp [hs]
  ·show x.2.length ≤ qb w x.1
   rw [hs]; exact k2
  ·obtain ⟨y, hy, hv'⟩ := k3 i v hv
   exact ⟨y, by simpa using hy, kX (iq (hwf' x hx).2 v (List.mem_of_getElem? hv)) hv'⟩
 ·obtain ⟨x, hx, rfl, rfl⟩ := σG_get h1
  obtain ⟨y, hy, rfl, rfl⟩ := σG_get h2
  exact ⟨rfl, rfl⟩
theorem gN.E5 {w w' : World} {gl : Nat} {l : List (Nat × List AV)} {E : Nat → TypeId} {ρ ρ' : bN} {σ' : av} (h : dA ρ (σG gl l E) w ρ' σ' w') : gN w w' :=
 ⟨h.os, h.out, h.tape, h.size, fun r hr => h.frame r hr fun ⟨b, o, l', h1, h2, _⟩ => by
  obtain ⟨x, _, _, rfl⟩ := σG_get h1
  cases h2⟩
def mV : KR → Bool
 | .ret (.bool true) _ => true
 | _ => false
theorem vD {r : KR} (h : mV r = true) : ∃ σ, r = .ret (.bool true) σ := by
 unfold mV at h
 split at h
 ·exact ⟨_, rfl⟩
 ·cases h
theorem zl {P : Program} {G : Cx} (hm : P.follows .mixedOrders = true) (hC : xQ P G) {fuel f : Nat} {w : World} (ho : Dp w) (hgl : G.gl ≤ w.heap.size) (hwf : vS G.gl G.laid = true) (hl : ∀ x ∈ G.laid, iI w x)
  (h : ∀ E, mV (xj P G fuel f [] (σG G.gl G.laid E)) = true) : Calls P f #[] w fun e w' => e = .returned (.bool true) ∧ gN w w' := by
 have h := h (elemAt w)
 rw [C6] at h
 obtain ⟨σ, h⟩ := vD h
 refine nf hm hC h (G5 ho hgl hwf hl) (fun g hg => ⟨_, by show ρG w G.gl g = _; unfold ρG; rw [if_pos hg]⟩) bX.nil fun ρ' w' x _ st hv => ?_
 simp only [VR] at hv
 exact ⟨by rw [hv], gN.E5 st⟩
theorem zM {P : Program} {G : Cx} (hm : P.follows .mixedOrders = true) (hC : xQ P G) {fuel f : Nat} (hwf : vS G.gl G.laid = true) (h : ∀ E, mV (xj P G fuel f [] (σG G.gl G.laid E)) = true) : AT P G.gl G.laid f [] (.bool true) := fun w xs hgl ho hl hx => by
 have : xs = #[] := by
  have := hx.dD
  rw [← Array.toList_inj]; exact this
 subst this
 exact (zl hm hC (w := w) ho hgl hwf hl h).mono fun e w' ⟨h1, h2⟩ => ⟨_, h1, by simp only [VR], h2⟩
end Go.Ev
