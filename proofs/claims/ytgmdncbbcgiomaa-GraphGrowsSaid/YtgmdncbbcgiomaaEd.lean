/- Rules for walks on the evaluator: inputs laid as blocks, operations, loops, contracts of functions; what data read as. Without conditions. -/
import Derived.Test.YtgmdncbbcgiomaaEc
import Derived.ReadAgain
import Derived.ProofKit
set_option linter.unusedSectionVars false
set_option linter.unusedVariables false
set_option linter.unusedSimpArgs false
/- Reasoning about the evaluator's answers, for inputs that are not laid: rules for code, operations, calls. -/
namespace Go.Ev
variable [Env]
section
variable {P : Program} {G : Cx}

/-- The code comes to an end of which Q holds, by whatever fuel is enough. -/
def Ev (P : Program) (G : Cx) (c : Code) (n : Nat) (t : PT AV) (σ : AHeap) (Q : Ex → PT AV → AHeap → Prop) : Prop :=
 ∃ (K : Nat) (e : Ex) (t' : PT AV) (σ' : AHeap), (∀ k, K ≤ k → runX P G k c t n [] none σ = .ok e t' [] σ') ∧ Q e t' σ'
/-- The call returns a value of which R holds. -/
def EvCall (P : Program) (G : Cx) (f : Nat) (args : List AV) (σ : AHeap) (R : AV → AHeap → Prop) : Prop :=
 ∃ (K : Nat) (v : AV) (σ' : AHeap), (∀ k, K ≤ k → callX P G (runX P G k) f args σ = .ret v σ') ∧ R v σ'
def EvOps (P : Program) (G : Cx) (ops : Array Oper) (n : Nat) (l : List Oper) (t : PT AV) (σ : AHeap) (Q : Ex → PT AV → AHeap → Prop) : Prop :=
 ∃ (K : Nat) (e : Ex) (t' : PT AV) (σ' : AHeap), (∀ k, K ≤ k → opsX P G (runX P G k) ops n [] l t σ = .ok e t' [] σ') ∧ Q e t' σ'
def EvPlan (P : Program) (G : Cx) (ops : Array Oper) (n : Nat) (l : List (Nat × List Nat)) (t : PT AV) (σ : AHeap) (Q : Ex → PT AV → AHeap → Prop) : Prop :=
 ∃ (K : Nat) (e : Ex) (t' : PT AV) (σ' : AHeap), (∀ k, K ≤ k → planX P G (runX P G k) ops n [] l t σ = .ok e t' [] σ') ∧ Q e t' σ'

theorem Ev.mono {c : Code} {n : Nat} {t : PT AV} {σ : AHeap} {Q Q' : Ex → PT AV → AHeap → Prop} (h : Ev P G c n t σ Q) (hq : ∀ e t' σ', Q e t' σ' → Q' e t' σ') : Ev P G c n t σ Q' :=
 let ⟨K, e, t', σ', h1, h2⟩ := h; ⟨K, e, t', σ', h1, hq _ _ _ h2⟩
theorem EvCall.mono {f : Nat} {args : List AV} {σ : AHeap} {R R' : AV → AHeap → Prop} (h : EvCall P G f args σ R) (hq : ∀ v σ', R v σ' → R' v σ') : EvCall P G f args σ R' :=
 let ⟨K, v, σ', h1, h2⟩ := h; ⟨K, v, σ', h1, hq _ _ h2⟩

section
variable {n : Nat} {t : PT AV} {σ : AHeap} {Q : Ex → PT AV → AHeap → Prop}

theorem eI (h : Q .normal t σ) : Ev P G .skip n t σ Q := ⟨1, .normal, t, σ, fun k hk => by obtain ⟨j, rfl⟩ : ∃ j, k = j + 1 := ⟨k - 1, by omega⟩; rfl, h⟩
theorem eL {l : Nat} (h : Q .normal t σ) : Ev P G (.label l) n t σ Q := ⟨1, .normal, t, σ, fun k hk => by obtain ⟨j, rfl⟩ : ∃ j, k = j + 1 := ⟨k - 1, by omega⟩; rfl, h⟩
theorem eX {id : Nat} (h : Q (.exit id) t σ) : Ev P G (.exit id) n t σ Q := ⟨1, _, t, σ, fun k hk => by obtain ⟨j, rfl⟩ : ∃ j, k = j + 1 := ⟨k - 1, by omega⟩; rfl, h⟩
theorem eT (h : Q .ret t σ) : Ev P G .ret n t σ Q := ⟨1, _, t, σ, fun k hk => by obtain ⟨j, rfl⟩ : ∃ j, k = j + 1 := ⟨k - 1, by omega⟩; rfl, h⟩
/-- What is asked behind the first of two. -/
def thenQ (P : Program) (G : Cx) (n : Nat) (b : Code) (Q : Ex → PT AV → AHeap → Prop) (e : Ex) (t : PT AV) (σ : AHeap) : Prop :=
 match e with
 | .normal => Ev P G b n t σ Q
 | e => Q e t σ
theorem eS {a b : Code} (h : Ev P G a n t σ (thenQ P G n b Q)) : Ev P G (.seq a b) n t σ Q := by
 obtain ⟨K, e, t', σ', h1, h2⟩ := h
 have step : ∀ k, K ≤ k → runX P G (k + 1) (.seq a b) t n [] none σ = seqX (.ok e t' [] σ') (fun t d σ => runX P G k b t n d none σ) := fun k hk => by
  show seqX (runX P G k a t n [] none σ) (fun t d σ => runX P G k b t n d none σ) = _
  rw [h1 k hk]
 cases e with
 | normal =>
  obtain ⟨K2, e2, t2, σ2, h3, h4⟩ := h2
  refine ⟨max K K2 + 1, e2, t2, σ2, fun k hk => ?_, h4⟩
  obtain ⟨j, rfl⟩ : ∃ j, k = j + 1 := ⟨k - 1, by omega⟩
  rw [step j (by omega)]
  exact h3 j (by omega)
 | _ =>
  refine ⟨K + 1, _, t', σ', fun k hk => ?_, h2⟩
  obtain ⟨j, rfl⟩ : ∃ j, k = j + 1 := ⟨k - 1, by omega⟩
  rw [step j (by omega)]
  rfl
theorem eD {x : Operand} {a b : Code} {c : Bool} (hc : evalT G t x = some (.bool c)) (h : Ev P G (if c then a else b) n t σ Q) : Ev P G (.cond x a b) n t σ Q := by
 obtain ⟨K, e, t', σ', h1, h2⟩ := h
 refine ⟨K + 1, e, t', σ', fun k hk => ?_, h2⟩
 obtain ⟨j, rfl⟩ : ∃ j, k = j + 1 := ⟨k - 1, by omega⟩
 show condX (evalT G t x) (runX P G j a t n [] none σ) (runX P G j b t n [] none σ) = _
 rw [hc]
 have := h1 j (by omega)
 cases c <;> exact this
def blockQ (id : Nat) (Q : Ex → PT AV → AHeap → Prop) (e : Ex) (t : PT AV) (σ : AHeap) : Prop :=
 match e with
 | .exit j => if j = id then Q .normal t σ else Q (.exit j) t σ
 | e => Q e t σ
theorem eB {id : Nat} {b : Code} (h : Ev P G b n t σ (blockQ id Q)) : Ev P G (.block id b) n t σ Q := by
 obtain ⟨K, e, t', σ', h1, h2⟩ := h
 have step : ∀ k, K ≤ k → runX P G (k + 1) (.block id b) t n [] none σ = blockX id (.ok e t' [] σ') := fun k hk => by
  show blockX id (runX P G k b t n [] none σ) = _
  rw [h1 k hk]
 cases e with
 | exit q =>
  by_cases hq : q = id
  ·subst hq
   refine ⟨K + 1, .normal, t', σ', fun k hk => ?_, by simpa [blockQ] using h2⟩
   obtain ⟨j, rfl⟩ : ∃ j, k = j + 1 := ⟨k - 1, by omega⟩
   rw [step j (by omega)]
   show (bif Nat.beq q q then _ else _) = _
   rw [Nat.beq_refl]
   rfl
  ·refine ⟨K + 1, .exit q, t', σ', fun k hk => ?_, by simpa [blockQ, hq] using h2⟩
   obtain ⟨j, rfl⟩ : ∃ j, k = j + 1 := ⟨k - 1, by omega⟩
   rw [step j (by omega)]
   show (bif Nat.beq q id then _ else _) = _
   have : Nat.beq q id = false := by
    cases hh : Nat.beq q id with
    | false => rfl
    | true => exact absurd (Nat.eq_of_beq_eq_true hh) hq
   rw [this]
   rfl
 | _ =>
  refine ⟨K + 1, _, t', σ', fun k hk => ?_, h2⟩
  obtain ⟨j, rfl⟩ : ∃ j, k = j + 1 := ⟨k - 1, by omega⟩
  rw [step j (by omega)]
  rfl
/-- A loop: what holds ahead of each round, with a number that falls. -/
theorem ev_loop {b : Code} (I : Nat → PT AV → AHeap → Prop) (step : ∀ j t σ, I j t σ → Ev P G b n t σ (fun e t' σ' => match e with | .normal => ∃ i, i < j ∧ I i t' σ' | e => Q e t' σ')) :
  ∀ (j : Nat) (t : PT AV) (σ : AHeap), I j t σ → Ev P G (.loop b) n t σ Q := by
 intro j
 induction j using Nat.strongRecOn with
 | _ j ih =>
  intro t σ hI
  obtain ⟨K, e, t', σ', h1, h2⟩ := step j t σ hI
  have st : ∀ k, K ≤ k → runX P G (k + 1) (.loop b) t n [] none σ = seqX (.ok e t' [] σ') (fun t d σ => runX P G k (.loop b) t n d none σ) := fun k hk => by
   show seqX (runX P G k b t n [] none σ) (fun t d σ => runX P G k (.loop b) t n d none σ) = _
   rw [h1 k hk]
  cases e with
  | normal =>
   obtain ⟨i, hi, hI'⟩ := h2
   obtain ⟨K2, e2, t2, σ2, h3, h4⟩ := ih i hi t' σ' hI'
   refine ⟨max K K2 + 1, e2, t2, σ2, fun k hk => ?_, h4⟩
   obtain ⟨q, rfl⟩ : ∃ q, k = q + 1 := ⟨k - 1, by omega⟩
   rw [st q (by omega)]
   exact h3 q (by omega)
  | _ =>
   refine ⟨K + 1, _, t', σ', fun k hk => ?_, h2⟩
   obtain ⟨q, rfl⟩ : ∃ q, k = q + 1 := ⟨k - 1, by omega⟩
   rw [st q (by omega)]
   rfl
theorem eR {id : Nat} {ops : Array Oper} (hd : hasDef ops.toList = false) (h : EvOps P G ops n ops.toList t σ Q) : Ev P G (.region id ops false) n t σ Q := by
 obtain ⟨K, e, t', σ', h1, h2⟩ := h
 refine ⟨K + 1, e, t', σ', fun k hk => ?_, h2⟩
 obtain ⟨j, rfl⟩ : ∃ j, k = j + 1 := ⟨k - 1, by omega⟩
 show (bif hasDef ops.toList then defX P G ops n none [] t σ else fixD [] (opsX P G (runX P G j) ops n [] ops.toList t σ)) = _
 rw [hd, h1 j (by omega)]
 cases e <;> rfl
theorem ev_region_draw {id : Nat} {ops : Array Oper} (hf : fastOK P ops = true) (h : EvPlan P G ops n (plan P ops) t σ Q) : Ev P G (.region id ops true) n t σ Q := by
 obtain ⟨K, e, t', σ', h1, h2⟩ := h
 refine ⟨K + 1, e, t', σ', fun k hk => ?_, h2⟩
 obtain ⟨j, rfl⟩ : ∃ j, k = j + 1 := ⟨k - 1, by omega⟩
 show drawX P G (runX P G j) ops n [] t σ = _
 unfold drawX
 rw [hf]
 exact h1 j (by omega)

/-! Operations. -/
theorem eN {ops : Array Oper} (h : Q .normal t σ) : EvOps P G ops n [] t σ Q := ⟨0, .normal, t, σ, fun _ _ => rfl, h⟩
theorem eV {ops : Array Oper} {o : Oper} {l : List Oper} {v : AV} {t' : PT AV} {σ' : AHeap} (hw : wantedA ops t o = some true) (hv : opX P G (evalT G t) σ o.op = .val v σ') (hp : putT t n o.dst v = some t') (h : EvOps P G ops n l t' σ' Q) : EvOps P G ops n (o :: l) t σ Q := by
 obtain ⟨K, e, t2, σ2, h1, h2⟩ := h
 refine ⟨K, e, t2, σ2, fun k hk => ?_, h2⟩
 show oneX P G (runX P G k) true ops n o t σ (opsX P G (runX P G k) ops n [] l) = _
 unfold oneX
 rw [hw]
 dsimp only
 rw [hv]
 dsimp only [effX]
 rw [hp]
 exact h1 k hk
theorem eK {ops : Array Oper} {o : Oper} {l : List Oper} {t' : PT AV} {σ' : AHeap} (hw : wantedA ops t o = some true) (hv : opX P G (evalT G t) σ o.op = .skip σ') (hp : putT t n o.dst unit = some t') (h : EvOps P G ops n l t' σ' Q) : EvOps P G ops n (o :: l) t σ Q := by
 obtain ⟨K, e, t2, σ2, h1, h2⟩ := h
 refine ⟨K, e, t2, σ2, fun k hk => ?_, h2⟩
 show oneX P G (runX P G k) true ops n o t σ (opsX P G (runX P G k) ops n [] l) = _
 unfold oneX
 rw [hw]
 dsimp only
 rw [hv]
 dsimp only [effX]
 rw [hp]
 exact h1 k hk
theorem eU {ops : Array Oper} {o : Oper} {l : List Oper} {t' : PT AV} (hw : wantedA ops t o = some false) (hp : putT t n o.dst unit = some t') (h : EvOps P G ops n l t' σ Q) : EvOps P G ops n (o :: l) t σ Q := by
 obtain ⟨K, e, t2, σ2, h1, h2⟩ := h
 refine ⟨K, e, t2, σ2, fun k hk => ?_, h2⟩
 show oneX P G (runX P G k) true ops n o t σ (opsX P G (runX P G k) ops n [] l) = _
 unfold oneX
 rw [hw]
 dsimp only
 rw [hp]
 exact h1 k hk
theorem eC {ops : Array Oper} {o : Oper} {l : List Oper} {f : Nat} {args : List AV} {σ₁ : AHeap} (hw : wantedA ops t o = some true) (hv : opX P G (evalT G t) σ o.op = .enter f args σ₁)
  (h : EvCall P G f args σ₁ fun v σ' => ∃ t', putT t n o.dst v = some t' ∧ EvOps P G ops n l t' σ' Q) : EvOps P G ops n (o :: l) t σ Q := by
 obtain ⟨K, v, σ', h1, t', hp, K2, e, t2, σ2, h3, h4⟩ := h
 refine ⟨max K K2, e, t2, σ2, fun k hk => ?_, h4⟩
 show oneX P G (runX P G k) true ops n o t σ (opsX P G (runX P G k) ops n [] l) = _
 unfold oneX
 rw [hw]
 dsimp only
 rw [hv]
 dsimp only [effX]
 rw [h1 k (by omega)]
 dsimp only
 rw [hp]
 exact h3 k (by omega)
theorem pN {ops : Array Oper} (h : Q .normal t σ) : EvPlan P G ops n [] t σ Q := ⟨0, .normal, t, σ, fun _ _ => rfl, h⟩
theorem pV {ops : Array Oper} {i : Nat} {o : Oper} {l : List (Nat × List Nat)} {v : AV} {t' : PT AV} {σ' : AHeap} (hi : ops[i]? = some o) (hw : wantedA ops t o = some true) (hv : opX P G (evalT G t) σ o.op = .val v σ') (hp : putT t n o.dst v = some t') (h : EvPlan P G ops n l t' σ' Q) : EvPlan P G ops n ((i, []) :: l) t σ Q := by
 obtain ⟨K, e, t2, σ2, h1, h2⟩ := h
 refine ⟨K, e, t2, σ2, fun k hk => ?_, h2⟩
 show (match ops[i]? with
  | some o => oneX P G (runX P G k) false ops n o t σ (fun t' σ' => bif stillAll P G ops t' σ' [] then planX P G (runX P G k) ops n [] l t' σ' else .err 86)
  | none => .err 87) = _
 rw [hi]
 unfold oneX
 dsimp only
 rw [hw]
 dsimp only
 rw [hv]
 dsimp only [effX]
 rw [hp]
 exact h1 k hk
theorem pU {ops : Array Oper} {i : Nat} {o : Oper} {l : List (Nat × List Nat)} {t' : PT AV} (hi : ops[i]? = some o) (hw : wantedA ops t o = some false) (hp : putT t n o.dst unit = some t') (h : EvPlan P G ops n l t' σ Q) : EvPlan P G ops n ((i, []) :: l) t σ Q := by
 obtain ⟨K, e, t2, σ2, h1, h2⟩ := h
 refine ⟨K, e, t2, σ2, fun k hk => ?_, h2⟩
 show (match ops[i]? with
  | some o => oneX P G (runX P G k) false ops n o t σ (fun t' σ' => bif stillAll P G ops t' σ' [] then planX P G (runX P G k) ops n [] l t' σ' else .err 86)
  | none => .err 87) = _
 rw [hi]
 unfold oneX
 dsimp only
 rw [hw]
 dsimp only
 rw [hp]
 exact h1 k hk
theorem evPlan_call {ops : Array Oper} {i : Nat} {o : Oper} {rc : List Nat} {l : List (Nat × List Nat)} {f : Nat} {args : List AV} {σ₁ : AHeap} (hi : ops[i]? = some o) (hw : wantedA ops t o = some true) (hv : opX P G (evalT G t) σ o.op = .enter f args σ₁)
  (h : EvCall P G f args σ₁ fun v σ' => ∃ t', putT t n o.dst v = some t' ∧ stillAll P G ops t' σ' rc = true ∧ EvPlan P G ops n l t' σ' Q) : EvPlan P G ops n ((i, rc) :: l) t σ Q := by
 obtain ⟨K, v, σ', h1, t', hp, hs, K2, e, t2, σ2, h3, h4⟩ := h
 refine ⟨max K K2, e, t2, σ2, fun k hk => ?_, h4⟩
 show (match ops[i]? with
  | some o => oneX P G (runX P G k) false ops n o t σ (fun t' σ' => bif stillAll P G ops t' σ' rc then planX P G (runX P G k) ops n [] l t' σ' else .err 86)
  | none => .err 87) = _
 rw [hi]
 unfold oneX
 dsimp only
 rw [hw]
 dsimp only
 rw [hv]
 dsimp only [effX]
 rw [h1 k (by omega)]
 dsimp only
 rw [hp]
 dsimp only
 rw [hs]
 exact h3 k (by omega)
end

/-! Calls. -/
/-- A call of a function whose body is walked. -/
theorem ev_call {f : Nat} {fn : Func} {c : Code} {args : List AV} {σ : AHeap} {R : AV → AHeap → Prop} {t : PT AV} (hktb : G.ktb f args σ = none) (htbl : G.tbl f args = none) (hmem : findM G.gl G.laid G.mem f args σ = none) (hstop : G.stop f args σ = none) (hfk : G.fk f = false)
  (hf : P.funcs[f]? = some fn) (hb : fn.body = some c) (ha : argsT fn.ntmps args = some t)
  (h : Ev P G c fn.ntmps t σ fun e t' σ' => (e = .normal ∨ e = .ret) ∧ ∃ v, resultsA P fn t' σ' = some v ∧ R v σ') : EvCall P G f args σ R := by
 obtain ⟨K, e, t', σ', h1, he, v, h2, h3⟩ := h
 refine ⟨K, v, σ', fun k hk => ?_, h3⟩
 unfold callX
 rw [hktb]
 dsimp only
 rw [htbl]
 dsimp only
 rw [hmem]
 dsimp only
 rw [hstop]
 dsimp only
 rw [hfk]
 simp only [cond_false]
 unfold callC
 rw [hf]
 dsimp only
 rw [hb, ha]
 dsimp only
 rw [h1 k hk]
 rcases he with rfl | rfl <;>
 ·dsimp only
  unfold endX
  rw [show leaveX P G (runX P G k) [] .ret σ' = some (.ret, σ') from rfl]
  dsimp only
  rw [h2]
/-- A known call. -/
theorem ev_known {f : Nat} {args : List AV} {σ : AHeap} {R : AV → AHeap → Prop} {v : AV} (hktb : G.ktb f args σ = none) (htbl : G.tbl f args = some v) (h1 : allFlat args = true) (h2 : flatB v = true) (h3 : laidGo G.gl σ G.laid = true) (h : R v σ) : EvCall P G f args σ R := by
 refine ⟨0, v, σ, fun k _ => ?_, h⟩
 unfold callX
 rw [hktb]
 dsimp only
 rw [htbl]
 dsimp only
 rw [h1, h2, h3]
 rfl
end
end Go.Ev

/- Inputs: what memory is read as, laid as blocks that are read alone. -/
namespace Go.Ev
variable [Env]

/-- Where a struct's parts end that lie one behind the other. -/
def tiles (P : Program) : List Field → Nat → Option Nat
  | [], off => some off
  | f :: r, off => if f.offset = off then tiles P r (off + P.cellsOf f.type) else none

/-- The block heap holds the datum, as cells of a type. (Of other data than these nothing is said.) -/
def HasD {H : Type} (P : Program) (σ : AHeap) : Nat → TypeId → DataW H → List AV → Prop
  | 0, _, _, _ => False
  | fuel + 1, t, d, vs =>
    match P.underlying t, d with
    | some .bool, .lit (.bool b) => vs = [.bool b]
    | some (.int k), .lit (.int k' n) => k' = k ∧ (Lit.int k n).wf = true ∧ vs = [.int k n]
    | some .string, .lit (.string s) => s.length ≤ maxLen ∧ vs = [.str (s.map UInt8.toNat)]
    | some (.slice _), .nil => vs = [.nilSlice]
    | some (.slice e), .slice elems spare => 1 ≤ P.cellsOf e → ∃ (b : Nat) (c : Cap) (cells : List AV) (e' : Nat), vs = [.slice b 0 elems.length c] ∧ elems.length ≤ maxLen ∧ σ.m.get b = some (.row cells e' true) ∧
        (c = .known (elems.length + spare.length) ∨ c = .upto (P.cellsOf e)) ∧ cells.length = elems.length * P.cellsOf e ∧
        ∀ (i : Nat) (x : DataW H), elems[i]? = some x → HasD P σ fuel e x ((cells.drop (i * P.cellsOf e)).take (P.cellsOf e))
    | some (.struct fs), .agg parts => tiles P fs.toList 0 = some (P.cellsOf t) → parts.length = fs.size ∧ vs.length = P.cellsOf t ∧
        ∀ (i : Nat) (f : Field) (x : DataW H), fs[i]? = some f → parts[i]? = some x → HasD P σ fuel f.type x ((vs.drop f.offset).take (P.cellsOf f.type))
    | some (.array n e), .agg parts => P.cellsOf t = n * P.cellsOf e → parts.length = n ∧ vs.length = P.cellsOf t ∧
        ∀ (i : Nat) (x : DataW H), parts[i]? = some x → HasD P σ fuel e x ((vs.drop (i * P.cellsOf e)).take (P.cellsOf e))
    | _, _ => True

theorem HasD.mono {H : Type} {P : Program} {σ σ' : AHeap} (he : ∀ (b : Pos) (o : AObj), σ.m.get b = some o → σ'.m.get b = some o) : ∀ (fuel : Nat) (t : TypeId) (d : DataW H) (vs : List AV), HasD P σ fuel t d vs → HasD P σ' fuel t d vs
  | 0, _, _, _, h => h
  | fuel + 1, t, d, vs, h => by
    unfold HasD at h ⊢
    split at h
    · exact h
    · exact h
    · exact h
    · exact h
    · intro h1
      obtain ⟨b, c, cells, e', k1, k2, k3, k4, k5, k6⟩ := h h1
      exact ⟨b, c, cells, e', k1, k2, he _ _ k3, k4, k5, fun i x hx => HasD.mono he fuel _ _ _ (k6 i x hx)⟩
    · intro h1
      obtain ⟨k1, k2, k3⟩ := h h1
      exact ⟨k1, k2, fun i f x hf hx => HasD.mono he fuel _ _ _ (k3 i f x hf hx)⟩
    · intro h1
      obtain ⟨k1, k2, k3⟩ := h h1
      exact ⟨k1, k2, fun i x hx => HasD.mono he fuel _ _ _ (k3 i x hx)⟩
    · trivial

/-! Lists of pieces. -/
theorem VRs.flatten {ρ : Ren} : ∀ {vss : List (List AV)} {css : List (List Value)}, vss.length = css.length → (∀ (i : Nat) (vs : List AV) (cs : List Value), vss[i]? = some vs → css[i]? = some cs → VRs ρ vs cs) → VRs ρ vss.flatten css.flatten
  | [], [], _, _ => VRs.nil
  | [], _ :: _, h, _ => by simp at h
  | _ :: _, [], h, _ => by simp at h
  | vs :: vss, cs :: css, h, hh => by
    rw [List.flatten_cons, List.flatten_cons]
    exact (hh 0 vs cs rfl rfl).append (VRs.flatten (by simpa using h) fun i a b ha hb => hh (i + 1) a b (by simpa using ha) (by simpa using hb))
/-- A piece of pieces of one length. -/
theorem flatten_piece {α : Type} {m : Nat} : ∀ {l : List (List α)} {i : Nat} {x : List α}, (∀ y ∈ l, y.length = m) → l[i]? = some x → (l.flatten.drop (i * m)).take m = x
  | [], i, x, _, h => by simp at h
  | y :: l, 0, x, hm, h => by
    simp at h; subst h
    have hy := hm y (by simp)
    simp [← hy]
  | y :: l, i + 1, x, hm, h => by
    have hy := hm y (by simp)
    simp only [List.getElem?_cons_succ] at h
    rw [List.flatten_cons, show (i + 1) * m = y.length + i * m by rw [hy, Nat.succ_mul, Nat.add_comm], List.drop_append, List.drop_eq_nil_of_le (by omega), List.nil_append, Nat.add_sub_cancel_left]
    exact flatten_piece (fun z hz => hm z (by simp [hz])) h
theorem flatten_length {α : Type} {m : Nat} : ∀ {l : List (List α)}, (∀ y ∈ l, y.length = m) → l.flatten.length = l.length * m
  | [], _ => by simp
  | y :: l, hm => by
    rw [List.flatten_cons, List.length_append, hm y (by simp), flatten_length fun z hz => hm z (by simp [hz]), List.length_cons, Nat.succ_mul, Nat.add_comm]
/-- Pieces of parts that lie one behind the other: put together they are the whole; each is where it was. -/
theorem tiles_flatten {α : Type} {P : Program} : ∀ {fs : List Field} {off fin : Nat} {cs : List α}, tiles P fs off = some fin → fin ≤ cs.length → (fs.map fun f => (cs.drop f.offset).take (P.cellsOf f.type)).flatten = (cs.drop off).take (fin - off) ∧ off ≤ fin
  | [], off, fin, cs, h, _ => by simp only [tiles, Option.some.injEq] at h; subst h; simp
  | f :: fs, off, fin, cs, h, hl => by
    simp only [tiles] at h
    split at h
    · rename_i ho
      obtain ⟨h1, h2⟩ := tiles_flatten h hl
      refine ⟨?_, by omega⟩
      rw [List.map_cons, List.flatten_cons, h1, ho]
      rw [show fin - off = P.cellsOf f.type + (fin - (off + P.cellsOf f.type)) by omega, List.take_add, List.drop_drop]
    · cases h
theorem tiles_piece {α : Type} {P : Program} : ∀ {fs : List Field} {vss : List (List α)} {off fin : Nat}, tiles P fs off = some fin → (∀ (i : Nat) (f : Field) (vs : List α), fs[i]? = some f → vss[i]? = some vs → vs.length = P.cellsOf f.type) → vss.length = fs.length →
    ∀ {i : Nat} {f : Field} {vs : List α}, fs[i]? = some f → vss[i]? = some vs → off ≤ f.offset ∧ (vss.flatten.drop (f.offset - off)).take (P.cellsOf f.type) = vs
  | [], vss, off, fin, h, hl, hn, i, f, vs, hf, hv => by simp at hf
  | g :: fs, [], off, fin, h, hl, hn, i, f, vs, hf, hv => by simp at hv
  | g :: fs, w :: vss, off, fin, h, hl, hn, i, f, vs, hf, hv => by
    simp only [tiles] at h
    split at h
    · rename_i ho
      have hw := hl 0 g w rfl rfl
      cases i with
      | zero =>
        simp at hf hv
        subst hf; subst hv
        refine ⟨by omega, ?_⟩
        rw [ho, Nat.sub_self, List.drop_zero, List.flatten_cons, ← hw]
        simp
      | succ i =>
        simp only [List.getElem?_cons_succ] at hf hv
        obtain ⟨h1, h2⟩ := tiles_piece h (fun i f vs a b => hl (i + 1) f vs (by simpa using a) (by simpa using b)) (by simpa using hn) hf hv
        refine ⟨by omega, ?_⟩
        rw [List.flatten_cons, show f.offset - off = w.length + (f.offset - (off + P.cellsOf g.type)) by omega, List.drop_append, List.drop_eq_nil_of_le (by omega), List.nil_append, Nat.add_sub_cancel_left]
        exact h2
    · cases h

/-- Are all blocks to be read alone? -/
def AllRo (σ : AHeap) : Prop := ∀ b o, σ.m.get b = some o → o.ro = true

/-- What is laid leaves what lay. -/
structure Lay (ρ : Ren) (σ : AHeap) (ρ' : Ren) (σ' : AHeap) : Prop where
  le : ρ.le ρ'
  get : ∀ (b : Pos) (o : AObj), σ.m.get b = some o → σ'.m.get b = some o
theorem Lay.refl (ρ : Ren) (σ : AHeap) : Lay ρ σ ρ σ := ⟨Ren.le_refl ρ, fun _ _ h => h⟩
theorem Lay.trans {ρ ρ₁ ρ₂ : Ren} {σ σ₁ σ₂ : AHeap} (h : Lay ρ σ ρ₁ σ₁) (h' : Lay ρ₁ σ₁ ρ₂ σ₂) : Lay ρ σ ρ₂ σ₂ := ⟨Ren.le_trans h.le h'.le, fun b o hb => h'.get b o (h.get b o hb)⟩

/-- A block of memory is laid, to be read alone. -/
theorem Inv.layRo {ρ : Ren} {σ : AHeap} {w : World} (hi : Inv ρ σ w) (hr : AllRo σ) {l : Loc} {o : AObj} {x : Obj} (hx : w.heap[l.blk]? = some x) (ho : ObjR ρ l o x) (hro : o.ro = true) :
    Inv (ρ.with σ.next l) (σ.alloc o) w ∧ AllRo (σ.alloc o) ∧ Lay ρ σ (ρ.with σ.next l) (σ.alloc o) := by
  have hle := hi.with_le l
  have hlt : l.blk < w.heap.size := (Array.getElem?_eq_some_iff.1 hx).1
  have hnew : ∀ b l', b ≠ σ.next → (ρ.with σ.next l) b = some l' → ρ b = some l' := fun b l' hb h => by rwa [Ren.with_other ρ l hb] at h
  have hget : ∀ b, b ≠ σ.next → (σ.alloc o).m.get b = σ.m.get b := fun b hb => PT.get_put_other _ _ _ _ hb
  have hsame : (σ.alloc o).m.get σ.next = some o := PT.get_put_same _ _ _
  have hall : AllRo (σ.alloc o) := fun b q hb => by
    by_cases e : b = σ.next
    · subst e; rw [hsame] at hb; cases hb; exact hro
    · rw [hget b e] at hb; exact hr b q hb
  refine ⟨⟨⟨fun b hb => ?_, fun b l' hb => ?_, fun b o' l' hb hl' => ?_, fun b b' o₁ o₂ l₁ l₂ h1 h2 _ _ _ _ => ⟨hall b o₁ h1, hall b' o₂ h2⟩⟩, hi.old.size, hi.old.same, fun r _ ⟨b, o, l, h1, h2, _, _⟩ => by rw [hall b o h1] at h2; cases h2⟩, hall, hle, fun b q hb => ?_⟩
  · have hb' : σ.next.num + 1 ≤ b.num := by simpa [AHeap.alloc, Pos.num_succ] using hb
    have hne : b ≠ σ.next := fun e => by subst e; omega
    rw [Ren.with_other ρ l hne, hget b hne]
    exact hi.fresh b (by omega)
  · by_cases hne : b = σ.next
    · subst hne; rw [Ren.with_same] at hb; cases hb; exact hlt
    · exact hi.blk b l' (hnew b l' hne hb)
  · by_cases hne : b = σ.next
    · subst hne
      rw [Ren.with_same] at hl'
      rw [hsame] at hb
      cases hb; cases hl'
      exact ⟨x, hx, ho.mono hle⟩
    · rw [hget b hne] at hb
      obtain ⟨y, hy, hr'⟩ := hi.obj b o' l' hb (hnew b l' hne hl')
      exact ⟨y, hy, hr'.mono hle⟩
  · have hne : b ≠ σ.next := fun e => by subst e; rw [(hi.fresh _ (Nat.le_refl _)).2] at hb; cases hb
    rw [hget b hne]; exact hb

section
variable {H : Type} {enc : TypeId × Value → H} {P : Program} {w : World}

/-- What is laid for one reading. -/
def LayOK (enc : TypeId × Value → H) (P : Program) (w : World) (fuel : Nat) (t : TypeId) (cs : List Value) (d : DataW H) : Prop :=
  ∀ (ρ : Ren) (σ : AHeap), Inv ρ σ w → AllRo σ → ∃ (ρ' : Ren) (σ' : AHeap) (vs : List AV), Inv ρ' σ' w ∧ AllRo σ' ∧ Lay ρ σ ρ' σ' ∧ HasD P σ' fuel t d vs ∧ VRs ρ' vs cs

theorem anys {ρ : Ren} : ∀ (cs : List Value), VRs ρ (cs.map fun _ => AV.any) cs
  | [] => VRs.nil
  | _ :: cs => VRs.cons (by simp only [VR]) (anys cs)

theorem layPieces {fuel : Nat} (ih : ∀ t cs d p, DataW.trod enc P w 0 (fun _ => true) true fuel t cs = some (d, p) → LayOK enc P w fuel t cs d) :
    ∀ (l : List (TypeId × List Value)) (xs : List (DataW H × List MemPlace)), (l.mapM fun q => DataW.trod enc P w 0 (fun _ => true) true fuel q.1 q.2) = some xs → ∀ (ρ : Ren) (σ : AHeap), Inv ρ σ w → AllRo σ →
      ∃ (ρ' : Ren) (σ' : AHeap) (vss : List (List AV)), Inv ρ' σ' w ∧ AllRo σ' ∧ Lay ρ σ ρ' σ' ∧ vss.length = l.length ∧ xs.length = l.length ∧ ∀ (i : Nat) (q : TypeId × List Value) (x : DataW H × List MemPlace) (vs : List AV), l[i]? = some q → xs[i]? = some x → vss[i]? = some vs → HasD P σ' fuel q.1 x.1 vs ∧ VRs ρ' vs q.2
  | [], xs, h, ρ, σ, hi, hr => by
    simp at h; subst h
    exact ⟨ρ, σ, [], hi, hr, Lay.refl _ _, rfl, rfl, fun i q x vs hq => by simp at hq⟩
  | q :: l, xs, h, ρ, σ, hi, hr => by
    simp only [List.mapM_cons, Option.bind_eq_bind, Option.bind_eq_some_iff, Option.pure_def, Option.some.injEq] at h
    obtain ⟨⟨d, p⟩, h1, r, h2, rfl⟩ := h
    obtain ⟨ρ₁, σ₁, vs, i1, r1, l1, d1, v1⟩ := ih _ _ _ _ h1 ρ σ hi hr
    obtain ⟨ρ₂, σ₂, vss, i2, r2, l2, n1, n2, hh⟩ := layPieces ih l r h2 ρ₁ σ₁ i1 r1
    refine ⟨ρ₂, σ₂, vs :: vss, i2, r2, l1.trans l2, by simp [n1], by simp [n2], fun i q' x vs' hq hx hv => ?_⟩
    cases i with
    | zero =>
      simp at hq hx hv
      subst hq; subst hx; subst hv
      exact ⟨HasD.mono l2.get _ _ _ _ d1, VRs.mono l2.le _ _ v1⟩
    | succ i => exact hh i q' x vs' (by simpa using hq) (by simpa using hx) (by simpa using hv)


theorem mapM_get {α β : Type} {f : α → Option β} : ∀ {l : List α} {ys : List β}, l.mapM f = some ys → ys.length = l.length ∧ ∀ (i : Nat) (y : β), ys[i]? = some y → ∃ x, l[i]? = some x ∧ f x = some y
  | [], ys, h => by simp at h; subst h; exact ⟨rfl, fun i y hy => by simp at hy⟩
  | x :: l, ys, h => by
    simp only [List.mapM_cons, Option.bind_eq_bind, Option.bind_eq_some_iff, Option.pure_def, Option.some.injEq] at h
    obtain ⟨y, h1, r, h2, rfl⟩ := h
    obtain ⟨k1, k2⟩ := mapM_get h2
    refine ⟨by simp [k1], fun i z hz => ?_⟩
    cases i with
    | zero => simp at hz; subst hz; exact ⟨x, rfl, h1⟩
    | succ i => simpa using k2 i z (by simpa using hz)
theorem mapM_bind {α β γ : Type} {f : α → Option β} {g : β → Option γ} : ∀ {l : List α} {xs : List γ}, (l.mapM fun a => (f a).bind g) = some xs → ∃ ys, l.mapM f = some ys ∧ ys.mapM g = some xs
  | [], xs, h => by simp at h; subst h; exact ⟨[], rfl, rfl⟩
  | a :: l, xs, h => by
    simp only [List.mapM_cons, Option.bind_eq_bind, Option.bind_eq_some_iff, Option.pure_def, Option.some.injEq] at h
    obtain ⟨x, ⟨b, h1, h2⟩, r, h3, rfl⟩ := h
    obtain ⟨ys, k1, k2⟩ := mapM_bind h3
    exact ⟨b :: ys, by simp [List.mapM_cons, h1, k1], by simp [List.mapM_cons, h2, k2]⟩
theorem mapM_map {α β γ : Type} {f : α → β} {g : β → Option γ} : ∀ (l : List α), (l.map f).mapM g = l.mapM fun a => g (f a)
  | [] => rfl
  | a :: l => by simp only [List.map_cons, List.mapM_cons, mapM_map l]
theorem chunks_flatten {α : Type} {m : Nat} (L : List α) : ∀ (n : Nat), ((List.range n).map fun k => (L.drop (k * m)).take m).flatten = L.take (n * m)
  | 0 => by simp
  | n + 1 => by
    rw [List.range_succ, List.map_append, List.flatten_append, chunks_flatten L n]
    simp only [List.map_cons, List.map_nil, List.flatten_cons, List.flatten_nil, List.append_nil]
    rw [Nat.succ_mul, List.take_add]

/-- Cells that lie side by side. -/
theorem cells_read {a : Addr} {n : Nat} {cs : List Value} (h : w.cells? 0 a n = some cs) (hn : 1 ≤ n) : ∃ (c : Array Value) (e : TypeId) (fr : Nat × Nat), w.heap[a.block]? = some (Obj.cells c e fr) ∧ a.spot = none ∧ a.off + n ≤ c.size ∧ cs = (c.toList.drop a.off).take n := by
  unfold World.cells? at h
  rw [if_pos (Nat.zero_le _)] at h
  obtain ⟨k1, k2⟩ := mapM_get h
  have k1 : cs.length = n := by simpa using k1
  have h0 : ∃ (c : Array Value) (e : TypeId) (fr : Nat × Nat), w.heap[a.block]? = some (Obj.cells c e fr) ∧ a.spot = none := by
    have hlt : 0 < cs.length := by omega
    obtain ⟨x, hx, hc⟩ := k2 0 cs[0] (List.getElem?_eq_getElem hlt)
    have : x = 0 := by
      rw [List.getElem?_range (by omega)] at hx
      exact (Option.some.inj hx).symm
    subst this
    have ha : a.add 0 = a := by simp [Addr.add]
    rw [ha] at hc
    unfold World.cell? at hc
    split at hc
    · rename_i c e fr hh
      split at hc
      · cases hc
      · rename_i hs
        exact ⟨c, e, fr, hh, by simpa using hs⟩
    · cases hc
  obtain ⟨c, e, fr, hh, hs⟩ := h0
  have hcell : ∀ i y, cs[i]? = some y → c[a.off + i]? = some y := fun i y hy => by
    obtain ⟨x, hx, hc⟩ := k2 i y hy
    have hi : i < n := by rw [← k1]; exact (List.getElem?_eq_some_iff.1 hy).1
    have : x = i := by
      rw [List.getElem?_range hi] at hx
      exact (Option.some.inj hx).symm
    subst this
    rw [Addr.add_eq a x hs] at hc
    rwa [cell?_of_heap hh] at hc
  have hsz : a.off + n ≤ c.size := by
    have hlt : n - 1 < cs.length := by omega
    have := hcell (n - 1) cs[n - 1] (List.getElem?_eq_getElem hlt)
    have := (Array.getElem?_eq_some_iff.1 this).1
    omega
  refine ⟨c, e, fr, hh, hs, hsz, ?_⟩
  apply List.ext_getElem?
  intro i
  rw [List.getElem?_take, List.getElem?_drop, Array.getElem?_toList (xs := c)]
  by_cases hi : i < n
  · rw [if_pos hi]
    have hlt : i < cs.length := by omega
    rw [hcell i cs[i] (List.getElem?_eq_getElem hlt), List.getElem?_eq_getElem hlt]
  · rw [if_neg hi, List.getElem?_eq_none (by omega)]

theorem tiles_le {P : Program} : ∀ {fs : List Field} {off fin : Nat}, tiles P fs off = some fin → ∀ f ∈ fs, f.offset + P.cellsOf f.type ≤ fin
  | [], off, fin, h, f, hf => by cases hf
  | g :: fs, off, fin, h, f, hf => by
    simp only [tiles] at h
    split at h
    · rename_i ho
      rcases List.mem_cons.1 hf with rfl | hf
      · have := (tiles_flatten (P := P) (cs := List.replicate fin ()) h (by simp)).2
        omega
      · exact tiles_le h f hf
    · cases h

theorem laySlice (hw : ∃ (r : Nat) (c : Array Value) (e : TypeId) (fr : Nat × Nat), w.heap[r]? = some (Obj.cells c e fr)) {fuel : Nat} (ih : ∀ t cs d p, DataW.trod enc P w 0 (fun _ => true) true fuel t cs = some (d, p) → LayOK enc P w fuel t cs d) {t e : TypeId} {a : Addr} {len cap : Nat} {d : DataW H} {p : List MemPlace} (hu : P.underlying t = some (.slice e))
    (h : (if 0 ≤ a.block ∧ len ≤ cap ∧ cap ≤ maxLen then
        ((List.range len).mapM fun i => (w.cells? 0 (a.add (i * P.cellsOf e)) (P.cellsOf e)).bind (DataW.trod enc P w 0 (fun _ => true) true fuel e)).bind fun elems =>
          (if (fun _ => true) a.block = true then (List.range (cap - len)).mapM fun j => (w.cells? 0 (a.add ((len + j) * P.cellsOf e)) (P.cellsOf e)).bind (DataW.trod enc P w 0 (fun _ => true) true fuel e) else some []).map fun rest =>
            (DataW.slice (elems.map (·.1)) (rest.map (·.1)), MemPlace.row a ((elems.length + rest.length) * P.cellsOf e) ++ (elems ++ rest).flatMap (·.2))
      else none) = some (d, p)) {ρ : Ren} {σ : AHeap} (hi : Inv ρ σ w) (hr : AllRo σ) :
    ∃ (ρ' : Ren) (σ' : AHeap) (vs : List AV), Inv ρ' σ' w ∧ AllRo σ' ∧ Lay ρ σ ρ' σ' ∧ HasD P σ' (fuel + 1) t d vs ∧ VRs ρ' vs [Value.slice (some a) len cap] := by
  split at h
  · rename_i hc
    obtain ⟨_, hlc, hcm⟩ := hc
    obtain ⟨elems, hE, h⟩ := Option.bind_eq_some_iff.1 h
    obtain ⟨rest, hR, h⟩ := Option.map_eq_some_iff.1 h
    rw [if_pos rfl] at hR
    have hd : d = .slice (elems.map (·.1)) (rest.map (·.1)) := by have := congrArg Prod.fst h; simpa using this.symm
    subst hd
    have hel : elems.length = len := by have := (mapM_get hE).1; simpa using this
    have hrl : rest.length = cap - len := by have := (mapM_get hR).1; simpa using this
    by_cases hsz : 1 ≤ P.cellsOf e
    · obtain ⟨css, hcs, hex⟩ := mapM_bind hE
      obtain ⟨kcs, hcs'⟩ := mapM_get hcs
      have kcs : css.length = len := by simpa using kcs
      have hadd : ∀ k, (a.add k).block = a.block ∧ (a.add k).off = a.off + k := fun k => by
        unfold Addr.add
        split
        · rename_i h0; subst h0; exact ⟨rfl, rfl⟩
        · exact ⟨rfl, rfl⟩
      have hadd0 : a.add 0 = a := by simp [Addr.add]
      by_cases h0 : len = 0 ∧ cap = 0
      · obtain ⟨rfl, rfl⟩ := h0
        obtain ⟨r, c, e', fr, hh⟩ := hw
        have hobj : ObjR ρ ⟨r, 0, c.size⟩ (.row [] e' true) (.cells c e' fr) := ⟨c, fr, rfl, by simp, by simp, fun i v hv => by simp at hv, fun h => by cases h⟩
        obtain ⟨i1, r1, l1⟩ := hi.layRo hr hh hobj rfl
        refine ⟨_, _, [.slice σ.next 0 0 (.upto (P.cellsOf e))], i1, r1, l1, ?_, VRs.cons ?_ VRs.nil⟩
        · unfold HasD
          rw [hu]
          dsimp only
          intro _
          have he0 : elems = [] := List.eq_nil_of_length_eq_zero hel
          subst he0
          exact ⟨σ.next, _, [], e', rfl, by simp, PT.get_put_same _ _ _, .inr rfl, by simp, fun i x hx => by simp at hx⟩
        · simp only [VR]
          refine ⟨_, Ren.with_same _ _ _, .inr ?_⟩
          simp
      · have hblk : ∃ (c : Array Value) (e' : TypeId) (fr : Nat × Nat), w.heap[a.block]? = some (Obj.cells c e' fr) ∧ a.spot = none ∧ a.off ≤ c.size := by
          have go : ∀ cs : List Value, w.cells? 0 a (P.cellsOf e) = some cs → ∃ (c : Array Value) (e' : TypeId) (fr : Nat × Nat), w.heap[a.block]? = some (Obj.cells c e' fr) ∧ a.spot = none ∧ a.off ≤ c.size := fun cs hk => by
            obtain ⟨c, e', fr, h1, h2, h3, _⟩ := cells_read hk hsz
            exact ⟨c, e', fr, h1, h2, by omega⟩
          by_cases hl : len = 0
          · subst hl
            obtain ⟨dss, hds, _⟩ := mapM_bind hR
            obtain ⟨k1, k2⟩ := mapM_get hds
            have k1 : dss.length = cap - 0 := by simpa using k1
            have hlt : 0 < dss.length := by omega
            obtain ⟨x, hx0, hx⟩ := k2 0 dss[0] (List.getElem?_eq_getElem hlt)
            have : x = 0 := by rw [List.getElem?_range (by omega)] at hx0; exact (Option.some.inj hx0).symm
            subst this
            rw [Nat.zero_add, Nat.zero_mul, hadd0] at hx
            exact go _ hx
          · have hlt : 0 < css.length := by omega
            obtain ⟨x, hx0, hx⟩ := hcs' 0 css[0] (List.getElem?_eq_getElem hlt)
            have : x = 0 := by rw [List.getElem?_range (by omega)] at hx0; exact (Option.some.inj hx0).symm
            subst this
            rw [Nat.zero_mul, hadd0] at hx
            exact go _ hx
        obtain ⟨c, e', fr, hh, hspot, hoff⟩ := hblk
        have hpc : ∀ (i : Nat) (y : List Value), css[i]? = some y → a.off + (i + 1) * P.cellsOf e ≤ c.size ∧ y = ((c.toList.drop a.off).drop (i * P.cellsOf e)).take (P.cellsOf e) := fun i y hy => by
          obtain ⟨x, hx, hxy⟩ := hcs' i y hy
          have hi' : i < len := by rw [← kcs]; exact (List.getElem?_eq_some_iff.1 hy).1
          have : x = i := by rw [List.getElem?_range hi'] at hx; exact (Option.some.inj hx).symm
          subst this
          obtain ⟨c2, e2, fr2, h1, h2, h3, h4⟩ := cells_read hxy hsz
          obtain ⟨q1, q3⟩ := hadd (x * P.cellsOf e)
          rw [q1, hh] at h1
          cases h1
          rw [q3] at h3 h4
          exact ⟨by rw [Nat.succ_mul]; omega, by rw [h4, List.drop_drop]⟩
        have hsize : a.off + len * P.cellsOf e ≤ c.size := by
          by_cases hl : len = 0
          · subst hl; omega
          · have hlt : len - 1 < css.length := by omega
            have := (hpc (len - 1) css[len - 1] (List.getElem?_eq_getElem hlt)).1
            rwa [show len - 1 + 1 = len by omega] at this
        have hcsl : ∀ (i : Nat) (y : List Value), css[i]? = some y → y.length = P.cellsOf e := fun i y hy => by
          obtain ⟨k1, k2⟩ := hpc i y hy
          rw [k2, List.length_take, List.length_drop, List.length_drop, Array.length_toList]
          rw [Nat.succ_mul] at k1
          omega
        have hcseq : css = (List.range len).map fun k => ((c.toList.drop a.off).drop (k * P.cellsOf e)).take (P.cellsOf e) := by
          apply List.ext_getElem?
          intro i
          rw [List.getElem?_map]
          by_cases hi' : i < len
          · rw [List.getElem?_range hi']
            have hlt : i < css.length := by omega
            rw [List.getElem?_eq_getElem hlt]
            exact congrArg some (hpc i css[i] (List.getElem?_eq_getElem hlt)).2
          · rw [List.getElem?_eq_none (by omega), List.getElem?_eq_none (by simp; omega)]; rfl
        obtain ⟨ρ₁, σ₁, vss, i1, r1, l1, n1, n2, hh'⟩ := layPieces ih (css.map fun cs => (e, cs)) elems (by rw [mapM_map]; exact hex) ρ σ hi hr
        have n1 : vss.length = css.length := by simpa using n1
        have hV : VRs ρ₁ vss.flatten css.flatten := VRs.flatten n1 fun i vs cs hv hc' => by
          have hlt : i < elems.length := by rw [hel, ← kcs]; exact (List.getElem?_eq_some_iff.1 hc').1
          exact (hh' i (e, cs) elems[i] vs (by rw [List.getElem?_map, hc']; rfl) (List.getElem?_eq_getElem hlt) hv).2
        have hvl : ∀ vs ∈ vss, vs.length = P.cellsOf e := fun vs hv => by
          obtain ⟨i, hi', rfl⟩ := List.getElem_of_mem hv
          have hlt : i < css.length := by omega
          have hlt2 : i < elems.length := by omega
          have := (hh' i (e, css[i]) elems[i] vss[i] (by rw [List.getElem?_map, List.getElem?_eq_getElem hlt]; rfl) (List.getElem?_eq_getElem hlt2) (List.getElem?_eq_getElem hi')).2.length
          rw [← this]
          exact hcsl i _ (List.getElem?_eq_getElem hlt)
        have hfl : vss.flatten.length = len * P.cellsOf e := by rw [flatten_length hvl, n1, kcs]
        rw [hcseq, chunks_flatten] at hV
        have hobj : ObjR ρ₁ ⟨a.block, a.off, c.size - a.off⟩ (.row vss.flatten e' true) (.cells c e' fr) := by
          refine ⟨c, fr, rfl, by show c.size = a.off + (c.size - a.off); omega, by rw [hfl]; show _ ≤ c.size - a.off; omega, fun i v hv => ?_, fun h => by cases h⟩
          obtain ⟨y, hy, hvy⟩ := hV.get hv
          rw [List.getElem?_take] at hy
          split at hy
          · rw [List.getElem?_drop, Array.getElem?_toList] at hy
            exact ⟨y, hy, hvy⟩
          · cases hy
        obtain ⟨i2, r2, l2⟩ := i1.layRo r1 hh hobj rfl
        refine ⟨_, _, [.slice σ₁.next 0 len (.known cap)], i2, r2, l1.trans l2, ?_, VRs.cons ?_ VRs.nil⟩
        · unfold HasD
          rw [hu]
          dsimp only
          intro _
          refine ⟨σ₁.next, _, vss.flatten, e', by rw [List.length_map, hel], by rw [List.length_map, hel]; omega, PT.get_put_same _ _ _, .inl (by rw [List.length_map, List.length_map, hel, hrl]; congr 1; omega), by rw [hfl, List.length_map, hel], fun i x hx => ?_⟩
          rw [List.getElem?_map] at hx
          cases hy : elems[i]? with
          | none => rw [hy] at hx; cases hx
          | some y =>
            rw [hy] at hx
            cases hx
            have hi' : i < len := by rw [← hel]; exact (List.getElem?_eq_some_iff.1 hy).1
            have hlt : i < css.length := by omega
            have hlt2 : i < vss.length := by omega
            rw [flatten_piece hvl (List.getElem?_eq_getElem hlt2)]
            exact HasD.mono l2.get _ _ _ _ (hh' i (e, css[i]) y vss[i] (by rw [List.getElem?_map, List.getElem?_eq_getElem hlt]; rfl) hy (List.getElem?_eq_getElem hlt2)).1
        · simp only [VR]
          refine ⟨_, Ren.with_same _ _ _, ?_⟩
          obtain ⟨ab, ao, as⟩ := a
          dsimp only at hspot ⊢
          subst hspot
          rfl
    · refine ⟨ρ, σ, [.any], hi, hr, Lay.refl _ _, ?_, VRs.cons (by simp only [VR]) VRs.nil⟩
      unfold HasD
      rw [hu]
      exact fun h' => absurd h' hsz
  · cases h

theorem lay (hw : ∃ (r : Nat) (c : Array Value) (e : TypeId) (fr : Nat × Nat), w.heap[r]? = some (Obj.cells c e fr)) : ∀ (fuel : Nat) (t : TypeId) (cs : List Value) (d : DataW H) (p : List MemPlace), DataW.trod enc P w 0 (fun _ => true) true fuel t cs = some (d, p) → LayOK enc P w fuel t cs d
  | 0, t, cs, d, p, h => by simp [DataW.trod] at h
  | fuel + 1, t, cs, d, p, h => by
    intro ρ σ hi hr
    have ih := lay hw fuel
    -- whatever is not told stands for itself
    have other : (∀ vs : List AV, HasD P σ (fuel + 1) t d vs) → ∃ (ρ' : Ren) (σ' : AHeap) (vs : List AV), Inv ρ' σ' w ∧ AllRo σ' ∧ Lay ρ σ ρ' σ' ∧ HasD P σ' (fuel + 1) t d vs ∧ VRs ρ' vs cs := fun hd =>
      ⟨ρ, σ, _, hi, hr, Lay.refl _ _, hd _, anys cs⟩
    have one : ∀ {v : AV} {x : Value}, cs = [x] → (∀ ρ : Ren, VR ρ v x) → HasD P σ (fuel + 1) t d [v] → ∃ (ρ' : Ren) (σ' : AHeap) (vs : List AV), Inv ρ' σ' w ∧ AllRo σ' ∧ Lay ρ σ ρ' σ' ∧ HasD P σ' (fuel + 1) t d vs ∧ VRs ρ' vs cs := fun {v x} hc hv hd => by
      subst hc
      exact ⟨ρ, σ, [v], hi, hr, Lay.refl _ _, hd, VRs.cons (hv ρ) VRs.nil⟩
    cases hu : P.underlying t with
    | none => exact other fun vs => by unfold HasD; rw [hu]; trivial
    | some u =>
      unfold DataW.trod at h
      rw [hu] at h
      cases u with
      | bool =>
        split at h <;> first | (rename_i he; cases he; done) | skip
        all_goals first
          | (rename_i b he
             cases h
             exact one (v := .bool b) rfl (fun ρ => by simp only [VR]) (by unfold HasD; rw [hu]))
          | cases h
      | int k =>
        split at h <;> first | (rename_i he; cases he; done) | skip
        all_goals first
          | (rename_i k1 k2 n he
             cases he
             split at h
             · rename_i hk
               obtain ⟨hk1, hk2⟩ := hk
               subst hk1
               cases h
               exact one (v := .int k2 n) rfl (fun ρ => by simp only [VR]) (by unfold HasD; rw [hu]; exact ⟨rfl, hk2, rfl⟩)
             · cases h)
          | cases h
      | string =>
        split at h <;> first | (rename_i he; cases he; done) | skip
        all_goals first
          | (rename_i s he
             split at h
             · rename_i hk
               cases h
               exact one (v := .str (s.data.toList.map UInt8.toNat)) rfl (fun ρ => by simp only [VR]; exact ⟨s, rfl, rfl⟩) (by unfold HasD; rw [hu]; exact ⟨by simpa using hk, rfl⟩)
             · cases h)
          | cases h
      | struct fs =>
        dsimp only at h
        split at h
        · rename_i hlen
          obtain ⟨xs, hxs, hx⟩ := Option.map_eq_some_iff.1 h
          have hd : d = .agg (xs.map (·.1)) := by have := congrArg Prod.fst hx; simpa using this.symm
          subst hd
          by_cases ht : tiles P fs.toList 0 = some (P.cellsOf t)
          · obtain ⟨ρ₁, σ₁, vss, i1, r1, l1, n1, n2, hh⟩ := layPieces ih (fs.toList.map fun f => (f.type, (cs.drop f.offset).take (P.cellsOf f.type))) xs (by rw [mapM_map]; exact hxs) ρ σ hi hr
            have hflat := (tiles_flatten (cs := cs) ht (by omega)).1
            have hle := tiles_le ht
            have n1 : vss.length = fs.toList.length := by simpa using n1
            have n2 : xs.length = fs.toList.length := by simpa using n2
            have hpc : ∀ (i : Nat) (f : Field) (vs : List AV), fs.toList[i]? = some f → vss[i]? = some vs → ∃ x, xs[i]? = some x ∧ HasD P σ₁ fuel f.type x.1 vs ∧ VRs ρ₁ vs ((cs.drop f.offset).take (P.cellsOf f.type)) := fun i f vs hf hv => by
              have hlt : i < xs.length := by rw [n2]; exact (List.getElem?_eq_some_iff.1 hf).1
              obtain ⟨k1, k2⟩ := hh i (f.type, (cs.drop f.offset).take (P.cellsOf f.type)) xs[i] vs (by rw [List.getElem?_map, hf]; rfl) (List.getElem?_eq_getElem hlt) hv
              exact ⟨xs[i], List.getElem?_eq_getElem hlt, k1, k2⟩
            have hvl : ∀ (i : Nat) (f : Field) (vs : List AV), fs.toList[i]? = some f → vss[i]? = some vs → vs.length = P.cellsOf f.type := fun i f vs hf hv => by
              obtain ⟨x, _, _, k⟩ := hpc i f vs hf hv
              have h1 := k.length
              have h2 := hle f (List.mem_of_getElem? hf)
              rw [List.length_take, List.length_drop] at h1
              omega
            have hV : VRs ρ₁ vss.flatten cs := by
              have := VRs.flatten (ρ := ρ₁) (vss := vss) (css := fs.toList.map fun f => (cs.drop f.offset).take (P.cellsOf f.type)) (by simpa using n1) (fun i vs c hv hc => by
                rw [List.getElem?_map] at hc
                cases hf : fs.toList[i]? with
                | none => rw [hf] at hc; cases hc
                | some f =>
                  rw [hf] at hc
                  cases hc
                  obtain ⟨x, _, _, k⟩ := hpc i f vs hf hv
                  exact k)
              rw [hflat, List.drop_zero, Nat.sub_zero, ← hlen, List.take_length] at this
              exact this
            refine ⟨ρ₁, σ₁, vss.flatten, i1, r1, l1, ?_, hV⟩
            unfold HasD
            rw [hu]
            dsimp only
            intro _
            refine ⟨by simpa using n2, by rw [← hlen]; exact hV.length.symm, fun i f x hf hx => ?_⟩
            have hf' : fs.toList[i]? = some f := by rw [Array.getElem?_toList]; exact hf
            have hlt : i < vss.length := by rw [n1]; exact (List.getElem?_eq_some_iff.1 hf').1
            obtain ⟨_, hp⟩ := tiles_piece ht hvl n1 hf' (List.getElem?_eq_getElem hlt)
            obtain ⟨y, hy, k, _⟩ := hpc i f vss[i] hf' (List.getElem?_eq_getElem hlt)
            rw [List.getElem?_map, hy] at hx
            cases hx
            rw [Nat.sub_zero] at hp
            rw [hp]
            exact k
          · exact other fun vs => by unfold HasD; rw [hu]; exact fun h' => absurd h' ht
        · cases h
      | array m e =>
        dsimp only at h
        split at h
        · rename_i hlen
          obtain ⟨xs, hxs, hx⟩ := Option.map_eq_some_iff.1 h
          have hd : d = .agg (xs.map (·.1)) := by have := congrArg Prod.fst hx; simpa using this.symm
          subst hd
          by_cases ht : P.cellsOf t = m * P.cellsOf e
          · obtain ⟨ρ₁, σ₁, vss, i1, r1, l1, n1, n2, hh⟩ := layPieces ih ((List.range m).map fun i => (e, (cs.drop (i * P.cellsOf e)).take (P.cellsOf e))) xs (by rw [mapM_map]; exact hxs) ρ σ hi hr
            have n1 : vss.length = m := by simpa using n1
            have n2 : xs.length = m := by simpa using n2
            have hpc : ∀ (i : Nat) (vs : List AV), vss[i]? = some vs → ∃ x, xs[i]? = some x ∧ HasD P σ₁ fuel e x.1 vs ∧ VRs ρ₁ vs ((cs.drop (i * P.cellsOf e)).take (P.cellsOf e)) := fun i vs hv => by
              have hi' : i < m := by rw [← n1]; exact (List.getElem?_eq_some_iff.1 hv).1
              have hlt : i < xs.length := by omega
              obtain ⟨k1, k2⟩ := hh i (e, (cs.drop (i * P.cellsOf e)).take (P.cellsOf e)) xs[i] vs (by rw [List.getElem?_map, List.getElem?_range hi']; rfl) (List.getElem?_eq_getElem hlt) hv
              exact ⟨xs[i], List.getElem?_eq_getElem hlt, k1, k2⟩
            have hvl : ∀ vs ∈ vss, vs.length = P.cellsOf e := fun vs hv => by
              obtain ⟨i, hi', rfl⟩ := List.getElem_of_mem hv
              obtain ⟨x, _, _, k⟩ := hpc i _ (List.getElem?_eq_getElem hi')
              have h1 := k.length
              rw [List.length_take, List.length_drop, hlen, ht] at h1
              have : (i + 1) * P.cellsOf e ≤ m * P.cellsOf e := Nat.mul_le_mul_right _ (by omega)
              rw [Nat.succ_mul] at this
              omega
            have hV : VRs ρ₁ vss.flatten cs := by
              have := VRs.flatten (ρ := ρ₁) (vss := vss) (css := (List.range m).map fun i => (cs.drop (i * P.cellsOf e)).take (P.cellsOf e)) (by simpa using n1) (fun i vs c hv hc => by
                obtain ⟨x, _, _, k⟩ := hpc i vs hv
                have hi' : i < m := by rw [← n1]; exact (List.getElem?_eq_some_iff.1 hv).1
                rw [List.getElem?_map, List.getElem?_range hi'] at hc
                cases hc
                exact k)
              rw [chunks_flatten, ← ht, ← hlen, List.take_length] at this
              exact this
            refine ⟨ρ₁, σ₁, vss.flatten, i1, r1, l1, ?_, hV⟩
            unfold HasD
            rw [hu]
            dsimp only
            intro _
            refine ⟨by simpa using n2, by rw [← hlen]; exact hV.length.symm, fun i x hx => ?_⟩
            have hi' : i < vss.length := by
              have := (List.getElem?_eq_some_iff.1 hx).1
              rw [List.length_map] at this
              omega
            rw [flatten_piece hvl (List.getElem?_eq_getElem hi')]
            obtain ⟨y, hy, k, _⟩ := hpc i vss[i] (List.getElem?_eq_getElem hi')
            rw [List.getElem?_map, hy] at hx
            cases hx
            exact k
          · exact other fun vs => by unfold HasD; rw [hu]; exact fun h' => absurd h' ht
        · cases h
      | slice e =>
        split at h <;> first | (rename_i he; cases he; done) | skip
        all_goals first
          | (rename_i he
             cases h
             exact one (v := .nilSlice) rfl (fun ρ => by simp only [VR]) (by unfold HasD; rw [hu]))
          | (rename_i e' a len cap he
             cases he
             exact laySlice hw ih hu h hi hr)
          | cases h
      | _ => exact other fun vs => by unfold HasD; rw [hu]; trivial
end
end Go.Ev

/- Reasoning about the evaluator's answers: operations, one by one; heaps that grow. -/
namespace Go.Ev
variable [Env]
section
variable {P : Program} {G : Cx} {ev : Operand → Option AV} {σ : AHeap}

/-- What lay in the heap lies there. -/
def Ext (σ σ' : AHeap) : Prop := σ.next ≤ σ'.next ∧ ∀ (b : Nat) (o : AObj), b < σ.next → σ.m.get b = some o → σ'.m.get b = some o
theorem Ext.refl (σ : AHeap) : Ext σ σ := ⟨Nat.le_refl _, fun _ _ _ h => h⟩
theorem Ext.trans {σ σ₁ σ₂ : AHeap} (h : Ext σ σ₁) (h' : Ext σ₁ σ₂) : Ext σ σ₂ := ⟨Nat.le_trans h.1 h'.1, fun b o hb ho => h'.2 b o (Nat.lt_of_lt_of_le hb h.1) (h.2 b o hb ho)⟩
theorem get_alloc_new (σ : AHeap) (o : AObj) : (σ.alloc o).m.get σ.next = some o := PT.get_put_same _ _ _
theorem get_alloc_old (σ : AHeap) (o : AObj) {b : Nat} (h : b < σ.next) : (σ.alloc o).m.get b = σ.m.get b := PT.get_put_other _ _ _ _ (Nat.ne_of_lt h)
theorem next_alloc (σ : AHeap) (o : AObj) : (σ.alloc o).next = σ.next + 1 := rfl
theorem get_set_same (σ : AHeap) (b : Nat) (o : AObj) : (σ.setObj b o).m.get b = some o := PT.get_put_same _ _ _
theorem get_set_other (σ : AHeap) {b b' : Nat} (o : AObj) (h : b' ≠ b) : (σ.setObj b o).m.get b' = σ.m.get b' := PT.get_put_other _ _ _ _ h
theorem next_set (σ : AHeap) (b : Nat) (o : AObj) : (σ.setObj b o).next = σ.next := rfl
theorem Ext.alloc (σ : AHeap) (o : AObj) : Ext σ (σ.alloc o) := ⟨Nat.le_succ _, fun b o' hb h => by rw [get_alloc_old σ o hb]; exact h⟩
/-- A change of a block that is new. -/
theorem Ext.set {σ σ₁ : AHeap} (h : Ext σ σ₁) {b : Nat} (hb : σ.next ≤ b) (o : AObj) : Ext σ (σ₁.setObj b o) := ⟨h.1, fun c o' hc ho => by rw [get_set_other σ₁ o (Nat.ne_of_lt (Nat.lt_of_lt_of_le hc hb))]; exact h.2 c o' hc ho⟩

theorem xM {x : Operand} {v : AV} (h : ev x = some v) : opX P G ev σ (.move x) = .val v σ := by
 show (match ev x with | some v => HR.val v σ | none => _) = _
 rw [h]
theorem xA {x : Operand} {v : AV} (h : ev x = some v) : opX P G ev σ (.assign x) = .val v σ := by
 show (match ev x with | some v => HR.val v σ | none => _) = _
 rw [h]
theorem xU {op : Op} {v : AV} (hk : kindOf P op = .pure) (h : pureA P ev op = some v) : opX P G ev σ op = .val v σ := by
 unfold opX; rw [hk]; dsimp only; rw [h]
theorem x_read {op : Op} {v : AV} (hk : kindOf P op = .read) (h : readA P ev σ op = some v) : opX P G ev σ op = .val v σ := by
 unfold opX; rw [hk]; dsimp only; rw [h]
theorem x_alloc {op : Op} {ob : AObj} {mk : Mk} (hk : kindOf P op = .alloc) (h : allocA P ev op = some (ob, mk)) : opX P G ev σ op = .val (mk.of σ.next) (σ.alloc ob) := by
 unfold opX; rw [hk]; dsimp only; rw [h]
theorem x_heavy {op : Op} {r : HR} (hk : kindOf P op = .heavy) (h : heavyA P G.ov ev σ op = r) : opX P G ev σ op = r := by
 unfold opX; rw [hk]; exact h
theorem x1_ {t : TypeId} {x : Operand} {b : Pos} {off : Nat} {cells : List AV} {e : Nat} {ro : Bool} {v : AV} (hx : ev x = some (.ptr b off)) (hb : σ.m.get b = some (.row cells e ro)) (ha : aggOf P t = some none) (hv : nth cells off = some v) : opX P G ev σ (.load t x) = .val v σ := by
 refine x_read rfl ?_
 simp only [readA, hx, hb, ha, hv]
theorem xN {t : TypeId} {x : Operand} {b : Pos} {off n : Nat} {cells : List AV} {e : Nat} {ro : Bool} {vs : List AV} (hx : ev x = some (.ptr b off)) (hb : σ.m.get b = some (.row cells e ro)) (ha : aggOf P t = some (some n)) (hl : off + n ≤ cells.length) (hv : (cells.drop off).take n = vs) : opX P G ev σ (.load t x) = .val (.agg vs) σ := by
 refine x_read rfl ?_
 have hl' : Nat.ble (off + n) (lenN cells) = true := by rw [Nat.ble_eq, lenN_eq]; exact hl
 simp only [readA, hx, hb, ha, hl', cond_true, takeN_eq, dropN_eq, hv]
theorem xF {s : TypeId} {x : Operand} {i : Nat} {b : Pos} {off k : Nat} (hx : ev x = some (.ptr b off)) (hk : faOff P s i = some k) : opX P G ev σ (.fieldAddr s x i) = .val (.ptr b (off + k)) σ := by
 refine xU rfl ?_
 unfold faOff at hk
 simp only [pureA, hx]
 cases hs : structOf P s with
 | none => rw [hs] at hk; cases hk
 | some fs =>
  rw [hs] at hk
  dsimp only at hk ⊢
  cases hf : fs[i]? with
  | none => rw [hf] at hk; cases hk
  | some f =>
   rw [hf] at hk
   dsimp only at hk ⊢
   rw [infoF_eq] at hk
   cases hj : P.info? f.type with
   | none => rw [hj] at hk; cases hk
   | some j =>
    rw [hj] at hk
    dsimp only at hk ⊢
    rw [ite_cond] at hk ⊢
    split at hk
    ·cases hk
    ·rename_i h0
     cases hk
     rw [if_neg h0]
theorem x_index {t e : TypeId} {j : TypeInfo} {x i : Operand} {b : Pos} {off len n : Nat} {c : Cap} {k : IntKind} (ht : P.underlying t = some (.slice e)) (hj : P.info? e = some j) (hx : ev x = some (.slice b off len c)) (hi : ev i = some (.int k (.ofNat n))) (hn : n < len) : opX P G ev σ (.indexAddr t x i) = .val (.ptr b (off + n * j.size)) σ := by
 refine xU rfl ?_
 have : Nat.ble (Nat.succ n) len = true := by rw [Nat.ble_eq]; exact hn
 simp only [pureA, ht, hx, hi, hj, this, cond_true]
theorem x_len {c : Call} {t e : TypeId} {x : Operand} {b : Pos} {off len : Nat} {cp : Cap} (hc : c.callee = .builtin .len) (ht : c.argTypes[0]? = some t) (ha : c.args.toList = [x]) (hu : P.underlying t = some (.slice e)) (hx : ev x = some (.slice b off len cp)) : opX P G ev σ (.call c) = .val (.int .i64 (.ofNat len)) σ := by
 refine xU (by simp [kindOf, hc, isMap, ht, hu]) ?_
 simp only [pureA, hc, ht, ha, hx, lenA, hu, Option.map_some]
theorem x_lenNil {c : Call} {t e : TypeId} {x : Operand} (hc : c.callee = .builtin .len) (ht : c.argTypes[0]? = some t) (ha : c.args.toList = [x]) (hu : P.underlying t = some (.slice e)) (hx : ev x = some .nilSlice) : opX P G ev σ (.call c) = .val (.int .i64 (.ofNat 0)) σ := by
 refine xU (by simp [kindOf, hc, isMap, ht, hu]) ?_
 simp only [pureA, hc, ht, ha, hx, lenA, hu, Option.map_some]
theorem xB {o : BinOp} {t r : TypeId} {x y : Operand} {a b v : AV} (hx : ev x = some a) (hy : ev y = some b) (h : binN P (isK x || isK y) o t a b = some v) : opX P G ev σ (.binOp o t x y r) = .val v σ := by
 refine xU rfl ?_
 simp only [pureA, hx, hy, h]
theorem xP {c a b : Operand} {q : Bool} {v : AV} (hc : ev c = some (.bool q)) (h : (if q then ev a else ev b) = some v) : opX P G ev σ (.pick c a b) = .val v σ := by
 refine xU rfl ?_
 cases q with
 | true => simp only [pureA, hc]; exact h
 | false => simp only [pureA, hc]; exact h
theorem xn {t : TypeId} {x : Operand} {q : Bool} (hx : ev x = some (.bool q)) : opX P G ev σ (.unOp .not t x) = .val (.bool (!q)) σ := by
 refine xU rfl ?_
 simp only [pureA, hx]
 cases q <;> rfl
theorem xo_ {e : TypeId} {x : Operand} {v : AV} {cs : List AV} (hx : ev x = some v) (hc : cellsA v = some cs) : opX P G ev σ (.box e x) = .val (.ptr σ.next 0) (σ.alloc (.row cs e false)) := by
 exact x_alloc (op := .box e x) (mk := .ptr) (ob := .row cs e false) rfl (by simp only [allocA, hx, Option.bind_some, hc])
theorem xe {e : TypeId} {cs : List AV} (hz : (zeroA P e).bind cellsA = some cs) (hs : selfPtr P e = false) : opX P G ev σ (.alloc e) = .val (.ptr σ.next 0) (σ.alloc (.row cs e false)) := by
 exact x_alloc (op := .alloc e) (mk := .ptr) (ob := .row cs e false) rfl (by simp only [allocA, hz, hs, cond_false])
theorem x_store {t : TypeId} {x y : Operand} {b : Pos} {off : Nat} {v : AV} {cs cells : List AV} {e : Nat} {j : TypeInfo} (hx : ev x = some (.ptr b off)) (hy : ev y = some v) (hc : cellsA v = some cs) (hb : σ.m.get b = some (.row cells e false)) (hj : P.info? t = some j) (hl : cs.length = j.size) (hle : off + j.size ≤ cells.length) (hleaf : allLeaf cs = true) :
  opX P G ev σ (.store t x y) = .skip (σ.setObj b (.row (splice cs cells off) e false)) := by
 refine x_heavy rfl ?_
 have h1 : (Nat.beq (lenN cs) j.size && Nat.ble (off + j.size) (lenN cells) && allLeaf cs) = true := by
  rw [Bool.and_eq_true, Bool.and_eq_true, Nat.beq_eq, Nat.ble_eq, lenN_eq, lenN_eq]
  exact ⟨⟨hl, hle⟩, hleaf⟩
 simp only [heavyA, hx, hy, storeA, hc, hb, hj, h1, cond_true]
theorem xC {c : Call} {f : Operand} {g : Nat} {fi ca args : List AV} (hc : c.callee = .value f) (hf : ev f = some (.func g fi ca)) (ha : evs ev c.args.toList = some args) (hg : isGo P g = true) : opX P G ev σ (.call c) = .enter g (fi ++ (args ++ ca)) σ := by
 refine x_heavy (by simp [kindOf, hc]) ?_
 simp only [heavyA, hc, hf, ha, callA, hg, cond_true, appN_eq]
end
end Go.Ev

/- Walks: temporaries as puts upon what is not looked at; loops. -/
namespace Go.Ev
theorem upd_sel {α : Type} (n : Nat) (t : V16 α) (hn : n < 16) : (updC n).run t ((selC n).run t) = t := by
 rcases lt16 hn with rfl | rfl | rfl | rfl | rfl | rfl | rfl | rfl | rfl | rfl | rfl | rfl | rfl | rfl | rfl | rfl <;> rfl
theorem put2_get {α : Type} (t : V256 α) (k : Nat) (hk : k < 256) : put2 t k (get2 t k) = t := by
 unfold put2 get2
 rw [upd_sel (Nat.mod k 16) _ (Nat.mod_lt _ (by decide))]
 exact upd_sel (Nat.div k 16) _ (by show k / 16 < 16; omega)
theorem PT.put_get {α : Type} {t : PT α} {k : Nat} {o : Option α} (h : t.get k = o) (hk : k < 256) : t.put o k = t := by
 subst h
 rw [PT.get_s _ hk]
 cases t with
 | mk s m l => rw [PT.put_s _ _ _ _ hk]; exact congrArg (fun s => PT.mk s m l) (put2_get s k hk)
/-- What temporaries hold, as puts. -/
noncomputable def puts : PT AV → List (Nat × AV) → PT AV
 | t, [] => t
 | t, (k, v) :: l => puts (t.put (some v) k) l
def Gets (t : PT AV) : List (Nat × AV) → Prop
 | [] => True
 | (k, v) :: l => t.get k = some v ∧ Gets t l
theorem Gets.puts {t : PT AV} : ∀ {l : List (Nat × AV)}, Gets t l → (l.all fun x => Nat.blt x.1 256) = true → puts t l = t
 | [], _, _ => rfl
 | (k, v) :: l, h, hl => by
  rw [List.all_cons, Bool.and_eq_true] at hl
  have hk : k < 256 := by have := hl.1; exact Nat.le_of_ble_eq_true this
  show Go.Ev.puts (t.put (some v) k) l = t
  rw [PT.put_get h.1 hk]
  exact h.2.puts hl.2
theorem Gets.ex {t : PT AV} {l : List (Nat × AV)} (h : Gets t l) (hl : (l.all fun x => Nat.blt x.1 256) = true) : ∃ t0, t = Go.Ev.puts t0 l := ⟨t, (h.puts hl).symm⟩
section
variable [Env] {P : Program} {G : Cx} {ev : Operand → Option AV} {σ : AHeap}
theorem bX {id : Nat} {Q : Ex → PT AV → AHeap → Prop} {t : PT AV} (h : Q .normal t σ) : blockQ id Q (.exit id) t σ := by
 show (if id = id then _ else _)
 rw [if_pos rfl]; exact h
theorem bO {id j : Nat} {Q : Ex → PT AV → AHeap → Prop} {t : PT AV} (hj : Nat.beq j id = false) (h : Q (.exit j) t σ) : blockQ id Q (.exit j) t σ := by
 show (if j = id then _ else _)
 rw [if_neg (fun e => by rw [e, Nat.beq_refl] at hj; cases hj)]; exact h
theorem tX {n i : Nat} {b : Code} {Q : Ex → PT AV → AHeap → Prop} {t : PT AV} (h : Q (.exit i) t σ) : thenQ P G n b Q (.exit i) t σ := h
theorem tR {n : Nat} {b : Code} {Q : Ex → PT AV → AHeap → Prop} {t : PT AV} (h : Q .ret t σ) : thenQ P G n b Q .ret t σ := h
theorem x_idx {t e : TypeId} {m : Nat} {x i : Operand} {b : Pos} {off len n : Nat} {c : Cap} {k : IntKind} (ht : P.underlying t = some (.slice e)) (hj : (P.info? e).map (·.size) = some m) (hx : ev x = some (.slice b off len c)) (hi : ev i = some (.int k (.ofNat n))) (hn : n < len) : opX P G ev σ (.indexAddr t x i) = .val (.ptr b (off + n * m)) σ := by
 cases hq : P.info? e with
 | none => rw [hq] at hj; cases hj
 | some j =>
  rw [hq] at hj
  cases hj
  exact x_index ht hq hx hi hn
theorem x_storeS {t : TypeId} {m : Nat} {x y : Operand} {b : Pos} {off : Nat} {v : AV} {cs cells : List AV} {e : Nat} (hx : ev x = some (.ptr b off)) (hy : ev y = some v) (hc : cellsA v = some cs) (hb : σ.m.get b = some (.row cells e false)) (hj : (P.info? t).map (·.size) = some m) (hl : cs.length = m) (hle : off + m ≤ cells.length) (hleaf : allLeaf cs = true) :
  opX P G ev σ (.store t x y) = .skip (σ.setObj b (.row (splice cs cells off) e false)) := by
 cases hq : P.info? t with
 | none => rw [hq] at hj; cases hj
 | some j =>
  rw [hq] at hj
  cases hj
  exact x_store hx hy hc hb hq hl hle hleaf
end
end Go.Ev

/- Walks: blocks that stay as they lie, blocks of one's own; slices that lie; contracts. -/
namespace Go.Ev
variable [Env]

/-- What lies where, and stays. -/
abbrev KP := Nat → AObj → Prop
def KP.le (K K' : KP) : Prop := ∀ b o, K b o → K' b o
theorem KP.le_refl (K : KP) : KP.le K K := fun _ _ h => h
theorem KP.le_trans {K K' K'' : KP} (h : KP.le K K') (h' : KP.le K' K'') : KP.le K K'' := fun b o hb => h' b o (h b o hb)
def KP.add (K : KP) (b : Nat) (o : AObj) : KP := fun b' o' => K b' o' ∨ (b' = b ∧ o' = o)
theorem KP.le_add (K : KP) (b : Nat) (o : AObj) : KP.le K (K.add b o) := fun _ _ h => .inl h
/-- Blocks of one's own. -/
abbrev Own := List (Nat × AObj)
structure St (σ : AHeap) (K : KP) (L : Own) : Prop where
 kept : ∀ b o, K b o → b < σ.next ∧ σ.m.get b = some o ∧ ∀ e ∈ L, e.1 ≠ b
 own : ∀ e ∈ L, e.1 < σ.next ∧ σ.m.get e.1 = some e.2
 ne : L.Pairwise fun a b => a.1 ≠ b.1

section
variable {σ : AHeap} {K : KP} {L : Own}
theorem St.getK (h : St σ K L) {b : Nat} {o : AObj} (hk : K b o) : σ.m.get b = some o := (h.kept b o hk).2.1
theorem St.get (h : St σ K L) (k : Nat) {b : Nat} {o : AObj} (hk : L[k]? = some (b, o)) : σ.m.get b = some o := (h.own _ (List.mem_of_getElem? hk)).2
theorem St.alloc (h : St σ K L) (o : AObj) : St (σ.alloc o) K ((σ.next, o) :: L) where
 kept b o' hb := by
  obtain ⟨h1, h2, h3⟩ := h.kept b o' hb
  refine ⟨Nat.lt_succ_of_lt h1, by rw [get_alloc_old σ o h1]; exact h2, fun e he => ?_⟩
  rcases List.mem_cons.1 he with rfl | he
  ·exact fun e => by rw [← e] at h1; exact Nat.lt_irrefl _ h1
  ·exact h3 e he
 own e he := by
  rcases List.mem_cons.1 he with rfl | he
  ·exact ⟨Nat.lt_succ_self _, get_alloc_new _ _⟩
  ·obtain ⟨h1, h2⟩ := h.own e he
   exact ⟨Nat.lt_succ_of_lt h1, by rw [get_alloc_old σ o h1]; exact h2⟩
 ne := List.pairwise_cons.2 ⟨fun e he => fun hh => by have := (h.own e he).1; rw [← hh] at this; exact Nat.lt_irrefl _ this, h.ne⟩
theorem St.pop {e : Nat × AObj} (h : St σ K (e :: L)) : St σ K L where
 kept b o hb := let ⟨h1, h2, h3⟩ := h.kept b o hb; ⟨h1, h2, fun e he => h3 e (List.mem_cons_of_mem _ he)⟩
 own e he := h.own e (List.mem_cons_of_mem _ he)
 ne := (List.pairwise_cons.1 h.ne).2
theorem St.pops : ∀ {M : Own}, St σ K (M ++ L) → St σ K L
 | [], h => h
 | _ :: _, h => St.pops h.pop
theorem St.perm {L' : Own} (h : St σ K L) (hp : L.Perm L') : St σ K L' where
 kept b o hb := let ⟨h1, h2, h3⟩ := h.kept b o hb; ⟨h1, h2, fun e he => h3 e (hp.mem_iff.2 he)⟩
 own e he := h.own e (hp.mem_iff.2 he)
 ne := (hp.pairwise_iff (fun {a b} hab => fun e => hab e.symm)).1 h.ne
/-- A block of one's own is left as it lies, for good. -/
theorem St.keep {b : Nat} {o : AObj} (h : St σ K ((b, o) :: L)) : St σ (K.add b o) L where
 kept b' o' hb := by
  rcases hb with hb | ⟨rfl, rfl⟩
  ·exact h.pop.kept b' o' hb
  ·exact ⟨(h.own _ (List.mem_cons_self ..)).1, (h.own _ (List.mem_cons_self ..)).2, fun e he hh => (List.pairwise_cons.1 h.ne).1 e he hh.symm⟩
 own := h.pop.own
 ne := h.pop.ne
theorem St.set0 {b : Nat} {o : AObj} (h : St σ K ((b, o) :: L)) (o' : AObj) : St (σ.setObj b o') K ((b, o') :: L) where
 kept b' o'' hb := by
  obtain ⟨h1, h2, h3⟩ := h.kept b' o'' hb
  refine ⟨h1, by rw [get_set_other σ o' (fun e => h3 _ (List.mem_cons_self ..) e.symm)]; exact h2, fun e he => ?_⟩
  rcases List.mem_cons.1 he with rfl | he
  ·exact h3 (b, o) (List.mem_cons_self ..)
  ·exact h3 e (List.mem_cons_of_mem _ he)
 own e he := by
  rcases List.mem_cons.1 he with rfl | he
  ·exact ⟨(h.own _ (List.mem_cons_self ..)).1, get_set_same _ _ _⟩
  ·obtain ⟨h1, h2⟩ := h.own e (List.mem_cons_of_mem _ he)
   exact ⟨h1, by rw [get_set_other σ o' (fun hh => (List.pairwise_cons.1 h.ne).1 e he hh.symm)]; exact h2⟩
 ne := List.pairwise_cons.2 ⟨(List.pairwise_cons.1 h.ne).1, (List.pairwise_cons.1 h.ne).2⟩
theorem St.set1 {b : Nat} {o : AObj} {x : Nat × AObj} (h : St σ K (x :: (b, o) :: L)) (o' : AObj) : St (σ.setObj b o') K (x :: (b, o') :: L) :=
 ((h.perm (List.Perm.swap ..)).set0 o').perm (List.Perm.swap ..)
theorem perm2 {α : Type} (x y z : α) (L : List α) : (x :: y :: z :: L).Perm (z :: x :: y :: L) :=
 (List.Perm.cons x (List.Perm.swap z y L)).trans (List.Perm.swap z x (y :: L))
theorem St.set2 {b : Nat} {o : AObj} {x y : Nat × AObj} (h : St σ K (x :: y :: (b, o) :: L)) (o' : AObj) : St (σ.setObj b o') K (x :: y :: (b, o') :: L) :=
 ((h.perm (perm2 ..)).set0 o').perm (perm2 ..).symm
theorem perm3 {α : Type} (x y z u : α) (L : List α) : (x :: y :: z :: u :: L).Perm (u :: x :: y :: z :: L) :=
 (List.Perm.cons x (perm2 y z u L)).trans (List.Perm.swap u x (y :: z :: L))
theorem St.set3 {b : Nat} {o : AObj} {x y z : Nat × AObj} (h : St σ K (x :: y :: z :: (b, o) :: L)) (o' : AObj) : St (σ.setObj b o') K (x :: y :: z :: (b, o') :: L) :=
 ((h.perm (perm3 ..)).set0 o').perm (perm3 ..).symm
/-- A block is dropped, and another one laid. -/
theorem St.regrow {b : Nat} {o : AObj} (h : St σ K ((b, o) :: L)) (o' : AObj) : St ((σ.drop b).alloc o') K ((σ.next, o') :: L) := by
 refine St.alloc (σ := σ.drop b) ⟨fun b' o'' hb => ?_, fun e he => ?_, h.pop.ne⟩ o'
 ·obtain ⟨h1, h2, h3⟩ := h.kept b' o'' hb
  exact ⟨h1, by rw [show (σ.drop b).m.get b' = σ.m.get b' from PT.get_put_other _ _ _ _ (fun e => h3 _ (List.mem_cons_self ..) e.symm)]; exact h2, fun e he => h3 e (List.mem_cons_of_mem _ he)⟩
 ·obtain ⟨h1, h2⟩ := h.own e (List.mem_cons_of_mem _ he)
  exact ⟨h1, by rw [show (σ.drop b).m.get e.1 = σ.m.get e.1 from PT.get_put_other _ _ _ _ (fun hh => (List.pairwise_cons.1 h.ne).1 e he hh.symm)]; exact h2⟩
theorem St.named (h : St σ K L) : ∃ L', St σ K L' ∧ L = L' := ⟨L, h, rfl⟩
theorem St.ext {σ' : AHeap} (h : St σ K L) (he : Ext σ σ') : St σ' K L where
 kept b o hb := let ⟨h1, h2, h3⟩ := h.kept b o hb; ⟨Nat.lt_of_lt_of_le h1 he.1, he.2 b o h1 h2, h3⟩
 own e hm := let ⟨h1, h2⟩ := h.own e hm; ⟨Nat.lt_of_lt_of_le h1 he.1, he.2 _ _ h1 h2⟩
 ne := h.ne
end

/-! What lies at a place; slices. -/
def PtsTo (K : KP) (p : AV) (vs : List AV) : Prop :=
 ∃ (b off : Nat) (cells : List AV) (e : Nat) (ro : Bool), p = .ptr b off ∧ K b (.row cells e ro) ∧ off + vs.length ≤ cells.length ∧ (cells.drop off).take vs.length = vs
theorem PtsTo.mono {K K' : KP} (hk : KP.le K K') {p : AV} {vs : List AV} (h : PtsTo K p vs) : PtsTo K' p vs :=
 let ⟨b, off, cells, e, ro, h1, h2, h3, h4⟩ := h; ⟨b, off, cells, e, ro, h1, hk _ _ h2, h3, h4⟩
def CapOK (m len : Nat) (c : Cap) : Prop := c = .upto m ∨ ∃ n, c = .known n ∧ len ≤ n
/-- A list of so many cells each lies, as a slice. -/
def HasS {α : Type} (K : KP) (m : Nat) (R : α → List AV → Prop) (l : List α) (v : AV) : Prop :=
 (l = [] ∧ v = .nilSlice) ∨ ∃ (b off : Nat) (c : Cap) (cells : List AV) (e : Nat) (ro : Bool), v = .slice b off l.length c ∧ CapOK m l.length c ∧ K b (.row cells e ro) ∧ off + l.length * m ≤ cells.length ∧ l.length ≤ 9223372036854775807 ∧
  ∀ (i : Nat) (x : α), l[i]? = some x → R x ((cells.drop (off + i * m)).take m)
theorem HasS.mono {α : Type} {K K' : KP} {m : Nat} {R R' : α → List AV → Prop} {l : List α} {v : AV} (h : HasS K m R l v) (hk : KP.le K K') (hR : ∀ x vs, R x vs → R' x vs) : HasS K' m R' l v := by
 rcases h with h | ⟨b, off, c, cells, e, ro, h1, h2, h3, h4, h5⟩
 ·exact .inl h
 ·exact .inr ⟨b, off, c, cells, e, ro, h1, h2, hk _ _ h3, h4, h5.1, fun i x hx => hR x _ (h5.2 i x hx)⟩
theorem HasS.len_le {α : Type} {K : KP} {m : Nat} {R : α → List AV → Prop} {l : List α} {v : AV} (h : HasS K m R l v) : l.length ≤ 9223372036854775807 := by
 rcases h with ⟨rfl, _⟩ | ⟨b, off, c, cells, e, ro, h1, h2, h3, h4, h5, _⟩
 ·exact Nat.zero_le _
 ·exact h5
theorem HasS.leaf {α : Type} {K : KP} {m : Nat} {R : α → List AV → Prop} {l : List α} {v : AV} (h : HasS K m R l v) : cellsA v = some [v] ∧ leafB v = true := by
 rcases h with ⟨_, rfl⟩ | ⟨b, off, c, cells, e, ro, rfl, _⟩ <;> exact ⟨rfl, rfl⟩
theorem HasS.lenA {α : Type} {K : KP} {m : Nat} {R : α → List AV → Prop} {l : List α} {v : AV} (h : HasS K m R l v) {P : Program} {t e : TypeId} (hu : P.underlying t = some (.slice e)) : Go.Ev.lenA P t v = some l.length := by
 rcases h with ⟨rfl, rfl⟩ | ⟨b, off, c, cells, e, ro, rfl, _⟩
 ·simp only [Go.Ev.lenA, hu]; rfl
 ·simp only [Go.Ev.lenA, hu]
/-- An element of it. -/
theorem HasS.at {α : Type} {K : KP} {m : Nat} {R : α → List AV → Prop} {l : List α} {v : AV} (h : HasS K m R l v) {i : Nat} {x : α} (hi : l[i]? = some x) :
  ∃ (b off : Nat) (c : Cap) (vs : List AV), v = .slice b off l.length c ∧ i < l.length ∧ PtsTo K (.ptr b (off + i * m)) vs ∧ vs.length = m ∧ R x vs := by
 have hlt : i < l.length := (List.getElem?_eq_some_iff.1 hi).1
 rcases h with ⟨rfl, _⟩ | ⟨b, off, c, cells, e, ro, rfl, h2, h3, h4, h5⟩
 ·exact absurd hlt (Nat.not_lt_zero _)
 ·have hle : (i + 1) * m ≤ l.length * m := Nat.mul_le_mul_right _ hlt
  rw [Nat.succ_mul] at hle
  have hn : ((cells.drop (off + i * m)).take m).length = m := by rw [List.length_take, List.length_drop]; omega
  refine ⟨b, off, c, _, rfl, hlt, ⟨b, off + i * m, cells, e, ro, rfl, h3, by rw [hn]; omega, by rw [hn]⟩, hn, h5.2 i x hi⟩

section
variable {P : Program} {G : Cx} {ev : Operand → Option AV} {σ : AHeap} {K : KP} {L : Own}
theorem x_len' {α : Type} {m : Nat} {R : α → List AV → Prop} {l : List α} {c : Call} {t e : TypeId} {x : Operand} {v : AV} (hs : HasS K m R l v) (hc : c.callee = .builtin .len) (ht : c.argTypes[0]? = some t) (ha : c.args.toList = [x]) (hu : P.underlying t = some (.slice e)) (hx : ev x = some v) : opX P G ev σ (.call c) = .val (.int .i64 (.ofNat l.length)) σ := by
 refine xU (by simp [kindOf, hc, isMap, ht, hu]) ?_
 simp only [pureA, hc, ht, ha, hx, hs.lenA hu, Option.map_some]
theorem x_lenStr {c : Call} {t : TypeId} {x : Operand} {s : List Nat} (hc : c.callee = .builtin .len) (ht : c.argTypes[0]? = some t) (ha : c.args.toList = [x]) (hu : P.underlying t = some .string) (hx : ev x = some (.str s)) : opX P G ev σ (.call c) = .val (.int .i64 (.ofNat (lenN s))) σ := by
 refine xU (by simp [kindOf, hc, isMap, ht, hu]) ?_
 simp only [pureA, hc, ht, ha, hx, lenA, hu, Option.map_some]
theorem xp {t : TypeId} {x : Operand} {p v : AV} {vs : List AV} (hs : St σ K L) (hp : PtsTo K p vs) (hx : ev x = some p) (ha : aggOf P t = some none) (hv : vs[0]? = some v) : opX P G ev σ (.load t x) = .val v σ := by
 obtain ⟨b, off, cells, e, ro, rfl, h2, h3, h4⟩ := hp
 refine x1_ hx (hs.getK h2) ha ?_
 rw [nth_eq]
 rw [← h4, List.getElem?_take] at hv
 split at hv
 ·simpa using hv
 ·cases hv
theorem xq {t : TypeId} {x : Operand} {p : AV} {vs : List AV} {n : Nat} (hs : St σ K L) (hp : PtsTo K p vs) (hx : ev x = some p) (ha : aggOf P t = some (some n)) (hv : n ≤ vs.length) : opX P G ev σ (.load t x) = .val (.agg (vs.take n)) σ := by
 obtain ⟨b, off, cells, e, ro, rfl, h2, h3, h4⟩ := hp
 refine xN hx (hs.getK h2) ha (by omega) ?_
 rw [← h4, List.take_take, Nat.min_eq_left hv]
end

section
variable {P : Program} {G : Cx} {n : Nat} {t : PT AV} {σ : AHeap} {K : KP} {L : Own} {Q : Ex → PT AV → AHeap → Prop} {ops : Array Oper} {o : Oper} {l : List Oper}

/-- A truth is told apart. -/
theorem oS {c : Bool} {t' : Bool → PT AV} (hw : wantedA ops t o = some true) (hv : opX P G (evalT G t) σ o.op = .val (.bool c) σ) (hp : ∀ b, putT t n o.dst (.bool b) = some (t' b))
  (h1 : c = true → EvOps P G ops n l (t' true) σ Q) (h0 : c = false → EvOps P G ops n l (t' false) σ Q) : EvOps P G ops n (o :: l) t σ Q := by
 refine eV hw hv (hp c) ?_
 cases c with
 | true => exact h1 rfl
 | false => exact h0 rfl
/-- A new block of one's own. -/
theorem oP (hs : St σ K L) {ob : AObj} {t' : Nat → PT AV} (hw : wantedA ops t o = some true) (hv : opX P G (evalT G t) σ o.op = .val (.ptr σ.next 0) (σ.alloc ob)) (hp : ∀ b, putT t n o.dst (.ptr b 0) = some (t' b))
  (h : ∀ (σ' : AHeap) (b : Nat), St σ' K ((b, ob) :: L) → EvOps P G ops n l (t' b) σ' Q) : EvOps P G ops n (o :: l) t σ Q :=
 eV hw hv (hp _) (h _ _ (hs.alloc ob))
theorem o_mk (hs : St σ K L) {ob : AObj} {k c : Nat} {t' : Nat → PT AV} (hw : wantedA ops t o = some true) (hv : opX P G (evalT G t) σ o.op = .val (.slice σ.next 0 k (.known c)) (σ.alloc ob)) (hp : ∀ b, putT t n o.dst (.slice b 0 k (.known c)) = some (t' b))
  (h : ∀ (σ' : AHeap) (b : Nat), St σ' K ((b, ob) :: L) → EvOps P G ops n l (t' b) σ' Q) : EvOps P G ops n (o :: l) t σ Q :=
 eV hw hv (hp _) (h _ _ (hs.alloc ob))
/-- A place of one's own is written. -/
theorem o_set0 {b : Nat} {ob ob' : AObj} {t' : PT AV} (hs : St σ K ((b, ob) :: L)) (hw : wantedA ops t o = some true) (hv : opX P G (evalT G t) σ o.op = .skip (σ.setObj b ob')) (hp : putT t n o.dst unit = some t')
  (h : ∀ σ', St σ' K ((b, ob') :: L) → EvOps P G ops n l t' σ' Q) : EvOps P G ops n (o :: l) t σ Q := eK hw hv hp (h _ (hs.set0 ob'))
theorem o_set1 {b : Nat} {ob ob' : AObj} {x : Nat × AObj} {t' : PT AV} (hs : St σ K (x :: (b, ob) :: L)) (hw : wantedA ops t o = some true) (hv : opX P G (evalT G t) σ o.op = .skip (σ.setObj b ob')) (hp : putT t n o.dst unit = some t')
  (h : ∀ σ', St σ' K (x :: (b, ob') :: L) → EvOps P G ops n l t' σ' Q) : EvOps P G ops n (o :: l) t σ Q := eK hw hv hp (h _ (hs.set1 ob'))
theorem o_set2 {b : Nat} {ob ob' : AObj} {x y : Nat × AObj} {t' : PT AV} (hs : St σ K (x :: y :: (b, ob) :: L)) (hw : wantedA ops t o = some true) (hv : opX P G (evalT G t) σ o.op = .skip (σ.setObj b ob')) (hp : putT t n o.dst unit = some t')
  (h : ∀ σ', St σ' K (x :: y :: (b, ob') :: L) → EvOps P G ops n l t' σ' Q) : EvOps P G ops n (o :: l) t σ Q := eK hw hv hp (h _ (hs.set2 ob'))
theorem o_set3 {b : Nat} {ob ob' : AObj} {x y z : Nat × AObj} {t' : PT AV} (hs : St σ K (x :: y :: z :: (b, ob) :: L)) (hw : wantedA ops t o = some true) (hv : opX P G (evalT G t) σ o.op = .skip (σ.setObj b ob')) (hp : putT t n o.dst unit = some t')
  (h : ∀ σ', St σ' K (x :: y :: z :: (b, ob') :: L) → EvOps P G ops n l t' σ' Q) : EvOps P G ops n (o :: l) t σ Q := eK hw hv hp (h _ (hs.set3 ob'))
/-- An element's place. -/
theorem oI {α : Type} {m : Nat} {R : α → List AV → Prop} {la : List α} {v : AV} {i : Nat} {x : α} {ty e : TypeId} {xo io : Operand} {k : IntKind} {t' : AV → PT AV} (hs : HasS K m R la v) (hi : la[i]? = some x) (hw : wantedA ops t o = some true) (ho : o.op = .indexAddr ty xo io)
  (ht : P.underlying ty = some (.slice e)) (hj : (P.info? e).map (·.size) = some m) (hx : evalT G t xo = some v) (hio : evalT G t io = some (.int k (.ofNat i))) (hp : ∀ p, putT t n o.dst p = some (t' p))
  (h : ∀ p vs, PtsTo K p vs → vs.length = m → R x vs → EvOps P G ops n l (t' p) σ Q) : EvOps P G ops n (o :: l) t σ Q := by
 obtain ⟨b, off, c, vs, rfl, hlt, h1, h2, h3⟩ := hs.at hi
 refine eV hw ?_ (hp _) (h _ vs h1 h2 h3)
 rw [ho]
 exact x_idx ht hj hx hio hlt
/-- A field's place. -/
theorem o_pfield {p : AV} {vs : List AV} {s : TypeId} {xo : Operand} {i k : Nat} {t' : AV → PT AV} (hpt : PtsTo K p vs) (hw : wantedA ops t o = some true) (ho : o.op = .fieldAddr s xo i) (hx : evalT G t xo = some p) (hk : faOff P s i = some k) (hl : k ≤ vs.length) (hp : ∀ p, putT t n o.dst p = some (t' p))
  (h : ∀ p', PtsTo K p' (vs.drop k) → EvOps P G ops n l (t' p') σ Q) : EvOps P G ops n (o :: l) t σ Q := by
 obtain ⟨b, off, cells, e, ro, rfl, h2, h3, h4⟩ := hpt
 refine eV hw ?_ (hp _) (h _ ⟨b, off + k, cells, e, ro, rfl, h2, by rw [List.length_drop]; omega, ?_⟩)
 ·rw [ho]
  exact xF hx hk
 ·rw [List.length_drop]
  conv => rhs; rw [← h4]
  rw [List.drop_take, List.drop_drop]
/-- A call by its contract. -/
theorem oC {f : Nat} {args : List AV} {t' : AV → PT AV} {R : AV → AHeap → Prop} (hw : wantedA ops t o = some true) (hv : opX P G (evalT G t) σ o.op = .enter f args σ) (hp : ∀ v, putT t n o.dst v = some (t' v))
  (hc : EvCall P G f args σ R) (h : ∀ v σ', R v σ' → EvOps P G ops n l (t' v) σ' Q) : EvOps P G ops n (o :: l) t σ Q :=
 eC hw hv (hc.mono fun v σ' hr => ⟨_, hp v, h v σ' hr⟩)
theorem e2_ {x : Operand} {a b : Code} {c : Bool} (hc : evalT G t x = some (.bool c)) (h1 : c = true → Ev P G a n t σ Q) (h0 : c = false → Ev P G b n t σ Q) : Ev P G (.cond x a b) n t σ Q := by
 refine eD hc ?_
 cases c with
 | true => exact h1 rfl
 | false => exact h0 rfl
end

/-! More operations. -/
theorem l0_ : allLeaf [] = true := rfl
theorem lC {v : AV} {vs : List AV} (h : leafB v = true) (hs : allLeaf vs = true) : allLeaf (v :: vs) = true := by
 show (bif leafB v then allLeaf vs else false) = true
 rw [h, hs]; rfl
section
variable {P : Program} {G : Cx} {ev : Operand → Option AV} {σ : AHeap} {K : KP} {L : Own}
theorem xS {t : TypeId} {m : Nat} {x y : Operand} {b : Pos} {off : Nat} {v : AV} {cs cells cells' : List AV} {e : Nat} (hx : ev x = some (.ptr b off)) (hy : ev y = some v) (hc : cellsA v = some cs) (hb : σ.m.get b = some (.row cells e false)) (hj : (P.info? t).map (·.size) = some m) (hl : cs.length = m) (hle : off + m ≤ cells.length) (hleaf : allLeaf cs = true) (hs : splice cs cells off = cells') :
  opX P G ev σ (.store t x y) = .skip (σ.setObj b (.row cells' e false)) := by
 subst hs
 exact x_storeS hx hy hc hb hj hl hle hleaf
theorem xw {t : TypeId} {x : Operand} {p : AV} {vs : List AV} {n : Nat} (hs : St σ K L) (hp : PtsTo K p vs) (hx : ev x = some p) (ha : aggOf P t = some (some n)) (hv : vs.length = n) : opX P G ev σ (.load t x) = .val (.agg vs) σ := by
 have := xq (G := G) hs hp hx ha (Nat.le_of_eq hv.symm)
 rwa [← hv, List.take_length] at this
noncomputable def fvOff (P : Program) (s : TypeId) (i : Nat) : Option (Nat × Option (Option Nat)) := (structOf P s).bind fun fs => (fs[i]?).map fun f => (f.offset, aggOf P f.type)
theorem xf_ {s : TypeId} {x : Operand} {i k : Nat} {cs : List AV} {v : AV} (hx : ev x = some (.agg cs)) (hk : fvOff P s i = some (k, some none)) (hv : nth cs k = some v) : opX P G ev σ (.field s x i) = .val v σ := by
 refine xU rfl ?_
 unfold fvOff at hk
 simp only [pureA, hx]
 cases hs : structOf P s with
 | none => rw [hs] at hk; cases hk
 | some fs =>
  rw [hs] at hk
  simp only [Option.bind_some, Option.map_eq_some_iff, Prod.mk.injEq] at hk
  obtain ⟨f, hf, rfl, ha⟩ := hk
  dsimp only
  rw [hf]
  simp only [partA, ha, hv]
theorem xg {s : TypeId} {x : Operand} {i k n : Nat} {cs vs : List AV} (hx : ev x = some (.agg cs)) (hk : fvOff P s i = some (k, some (some n))) (hv : takeN (dropN cs k) n = vs) : opX P G ev σ (.field s x i) = .val (.agg vs) σ := by
 refine xU rfl ?_
 unfold fvOff at hk
 simp only [pureA, hx]
 cases hs : structOf P s with
 | none => rw [hs] at hk; cases hk
 | some fs =>
  rw [hs] at hk
  simp only [Option.bind_some, Option.map_eq_some_iff, Prod.mk.injEq] at hk
  obtain ⟨f, hf, rfl, ha⟩ := hk
  dsimp only
  rw [hf]
  simp only [partA, ha, hv]
noncomputable def placesOf (P : Program) (t : TypeId) : Option (List (Nat × Nat)) := (structOf P t).bind fun fs => allSome (fun f : Field => (P.info? f.type).map fun j => (f.offset, j.size)) fs.toList
theorem fillA_nil {place : Nat → Option (Nat × Nat)} {cells : List AV} : fillA place ev [] cells = some cells := rfl
theorem fillA_cons {place : Nat → Option (Nat × Nat)} {i : Nat} {x : Operand} {l : List (Nat × Operand)} {cells : List AV} {off size : Nat} {v : AV} {vs : List AV} {r : Option (List AV)} (hp : place i = some (off, size)) (hx : ev x = some v) (hc : cellsA v = some vs) (hl : (Nat.beq (lenN vs) size && Nat.ble (off + size) (lenN cells)) = true) (h : fillA place ev l (splice vs cells off) = r) : fillA place ev ((i, x) :: l) cells = r := by
 have hb : (ev x).bind cellsA = some vs := by rw [hx]; exact hc
 show (match place i, (ev x).bind cellsA with
   | some (off, size), some vs => bif Nat.beq (lenN vs) size && Nat.ble (off + size) (lenN cells) then fillA place ev l (splice vs cells off) else none
   | _, _ => none) = _
 rw [hp, hb]
 dsimp only
 rw [hl]
 exact h
theorem xb_ {t : TypeId} {parts : Array (Nat × Operand)} {places : List (Nat × Nat)} {zero cs : List AV} (hp : placesOf P t = some places) (hz : (zeroA P t).bind cellsA = some zero) (hu : aggOf P t = some (some zero.length)) (hf : fillA (nth places) ev parts.toList zero = some cs) (hs : (structOf P t).isSome = true) : opX P G ev σ (.build t parts) = .val (.agg cs) σ := by
 refine xU rfl ?_
 unfold placesOf structOf at hp
 unfold structOf at hs
 rw [underF_eq] at hp hs
 simp only [pureA, hz]
 split at hs
 ·rename_i fs hu
  rw [hu] at hp ⊢
  simp only [Option.bind_some] at hp
  simp only [hp, hf, Option.map_some]
 ·cases hs
theorem xc {s d : TypeId} {x : Operand} {j k : IntKind} {n : Int} (hk : kindOf P (.convert s d x) = .pure) (hs : P.underlying s = some (.int j)) (hd : P.underlying d = some (.int k)) (hx : ev x = some (.int j n)) : opX P G ev σ (.convert s d x) = .val (.int k (wr k n)) σ := by
 refine xU hk ?_
 simp only [pureA, hs, hd, hx]
end
section
variable {P : Program} {G : Cx} {n : Nat} {t : PT AV} {σ : AHeap} {K : KP} {L : Own} {Q : Ex → PT AV → AHeap → Prop} {ops : Array Oper} {o : Oper} {l : List Oper}
/-- A call whose answer is a truth, and which leaves all as it lay. -/
theorem oB {f : Nat} {args : List AV} {c : Bool} {t' : AV → PT AV} (hw : wantedA ops t o = some true) (hv : opX P G (evalT G t) σ o.op = .enter f args σ) (hp : ∀ v, putT t n o.dst v = some (t' v))
  (hc : EvCall P G f args σ fun v σ' => v = .bool c ∧ St σ' K L) (h1 : c = true → ∀ σ', St σ' K L → EvOps P G ops n l (t' (.bool true)) σ' Q) (h0 : c = false → ∀ σ', St σ' K L → EvOps P G ops n l (t' (.bool false)) σ' Q) : EvOps P G ops n (o :: l) t σ Q :=
 oC hw hv hp hc fun v σ' ⟨hv, hst⟩ => by
  subst hv
  cases c with
  | true => exact h1 rfl σ' hst
  | false => exact h0 rfl σ' hst
/-- A call whose answer is told, and which leaves all as it lay. -/
theorem oV {f : Nat} {args : List AV} {u : AV} {t' : AV → PT AV} (hw : wantedA ops t o = some true) (hv : opX P G (evalT G t) σ o.op = .enter f args σ) (hp : ∀ v, putT t n o.dst v = some (t' v))
  (hc : EvCall P G f args σ fun v σ' => v = u ∧ St σ' K L) (h : ∀ σ', St σ' K L → EvOps P G ops n l (t' u) σ' Q) : EvOps P G ops n (o :: l) t σ Q :=
 oC hw hv hp hc fun v σ' ⟨hv, hst⟩ => by subst hv; exact h σ' hst
theorem eA {x : Operand} {a b : Code} (hc : evalT G t x = some (.bool true)) (h : Ev P G a n t σ Q) : Ev P G (.cond x a b) n t σ Q := eD hc h
theorem eF {x : Operand} {a b : Code} (hc : evalT G t x = some (.bool false)) (h : Ev P G b n t σ Q) : Ev P G (.cond x a b) n t σ Q := eD hc h
theorem tN {b : Code} (h : Ev P G b n t σ Q) : thenQ P G n b Q .normal t σ := h
theorem bN {id : Nat} (h : Q .normal t σ) : blockQ id Q .normal t σ := h
theorem bR {id : Nat} (h : Q .ret t σ) : blockQ id Q .ret t σ := h
def loopQ (I : Nat → PT AV → AHeap → Prop) (j : Nat) (Q : Ex → PT AV → AHeap → Prop) (e : Ex) (t : PT AV) (σ : AHeap) : Prop :=
 match e with
 | .normal => ∃ i, i < j ∧ I i t σ
 | e => Q e t σ
theorem lN {I : Nat → PT AV → AHeap → Prop} {j : Nat} (h : ∃ i, i < j ∧ I i t σ) : loopQ I j Q .normal t σ := h
theorem lX {I : Nat → PT AV → AHeap → Prop} {j i : Nat} (h : Q (.exit i) t σ) : loopQ I j Q (.exit i) t σ := h
theorem lR {I : Nat → PT AV → AHeap → Prop} {j : Nat} (h : Q .ret t σ) : loopQ I j Q .ret t σ := h
theorem ev_loop' {b : Code} (I : Nat → PT AV → AHeap → Prop) (j : Nat) (hI : I j t σ) (step : ∀ j t σ, I j t σ → Ev P G b n t σ (loopQ I j Q)) : Ev P G (.loop b) n t σ Q :=
 ev_loop I (fun j t σ h => (step j t σ h).mono fun e t' σ' hq => by cases e <;> exact hq) j t σ hI
end

/-! Contracts. -/
/-- slices.Insert of the program in hand (the one function that asks for a capacity); a number beyond all others where there is none. -/
def insN : Nat := 49
/-- The law's lives: known without a walk. -/
def livN : Nat := 14
structure Plain (G : Cx) : Prop where
 h1 : ∀ f a s, G.ktb f a s = none
 h2 : ∀ f a, Nat.beq f livN = false → G.tbl f a = none
 h3 : G.mem = []
 h4 : ∀ f a s, G.stop f a s = none
 h5 : ∀ f, Nat.beq f insN = false → G.fk f = false
theorem ev_plain {P : Program} {G : Cx} (hG : Plain G) {f : Nat} {fn : Func} {c : Code} {args : List AV} {σ : AHeap} {R : AV → AHeap → Prop} {t : PT AV} (hf : P.funcs[f]? = some fn) (hb : fn.body = some c) (ha : argsT fn.ntmps args = some t)
  (h : Ev P G c fn.ntmps t σ fun e t' σ' => (e = .normal ∨ e = .ret) ∧ ∃ v, resultsA P fn t' σ' = some v ∧ R v σ') (hk : Nat.beq f insN = false := by rfl) (hl : Nat.beq f livN = false := by rfl) : EvCall P G f args σ R :=
 ev_call (hG.h1 _ _ _) (hG.h2 _ _ hl) (by rw [hG.h3]; rfl) (hG.h4 _ _ _) (hG.h5 _ hk) hf hb ha h
/-- What is asked at a function's end. -/
def endQ (P : Program) (fn : Func) (R : AV → AHeap → Prop) (e : Ex) (t : PT AV) (σ : AHeap) : Prop := (e = .normal ∨ e = .ret) ∧ ∃ v, resultsA P fn t σ = some v ∧ R v σ
theorem eY {P : Program} {G : Cx} (hG : Plain G) {f : Nat} {fn : Func} {c : Code} {args : List AV} {σ : AHeap} {R : AV → AHeap → Prop} {t : PT AV} (hf : P.funcs[f]? = some fn) (hb : fn.body = some c) (ha : argsT fn.ntmps args = some t)
  (h : Ev P G c fn.ntmps t σ (endQ P fn R)) (hk : Nat.beq f insN = false := by rfl) (hl : Nat.beq f livN = false := by rfl) : EvCall P G f args σ R := ev_plain hG hf hb ha h hk hl
theorem results_one {P : Program} {fn : Func} {k : Nat} {t : PT AV} {σ : AHeap} {v : AV} (hr : fn.results.toList = [.tmp k]) (h : t.get k = some v) : resultsA P fn t σ = some v := by
 unfold resultsA
 rw [hr]
 have : allSome (resultA P t σ) [.tmp k] = some [v] := by
  have h' : resultA P t σ (.tmp k) = some v := h
  unfold allSome
  simp only [h']
 rw [this]
theorem results_two {P : Program} {fn : Func} {j k : Nat} {t : PT AV} {σ : AHeap} {u v : AV} (hr : fn.results.toList = [.tmp j, .tmp k]) (h1 : t.get j = some u) (h2 : t.get k = some v) : resultsA P fn t σ = some (.tuple [u, v]) := by
 unfold resultsA
 rw [hr]
 have : allSome (resultA P t σ) [.tmp j, .tmp k] = some [u, v] := by
  have h1' : resultA P t σ (.tmp j) = some u := h1
  have h2' : resultA P t σ (.tmp k) = some v := h2
  unfold allSome
  simp only [h1', h2']
 rw [this]
theorem r1_ {P : Program} {fn : Func} {R : AV → AHeap → Prop} {t : PT AV} {σ : AHeap} {k : Nat} {v : AV} (hr : fn.results.toList = [.tmp k]) (h : t.get k = some v) (hR : R v σ) : endQ P fn R .ret t σ := ⟨.inr rfl, v, results_one hr h, hR⟩
theorem end_ret2 {P : Program} {fn : Func} {R : AV → AHeap → Prop} {t : PT AV} {σ : AHeap} {j k : Nat} {u v : AV} (hr : fn.results.toList = [.tmp j, .tmp k]) (h1 : t.get j = some u) (h2 : t.get k = some v) (hR : R (.tuple [u, v]) σ) : endQ P fn R .ret t σ := ⟨.inr rfl, _, results_two hr h1 h2, hR⟩
end Go.Ev

/- Loops' walks: temporaries that a loop leaves alone. -/
namespace Go.Ev
theorem V16.eta {α : Type} (t : V16 α) : t = ⟨(selC 0).run t, (selC 1).run t, (selC 2).run t, (selC 3).run t, (selC 4).run t, (selC 5).run t, (selC 6).run t, (selC 7).run t, (selC 8).run t, (selC 9).run t, (selC 10).run t, (selC 11).run t, (selC 12).run t, (selC 13).run t, (selC 14).run t, (selC 15).run t⟩ := by cases t; rfl
theorem V16.same {α : Type} {t t' : V16 α} (h : ∀ n, n < 16 → (selC n).run t = (selC n).run t') : t = t' := by
 rw [V16.eta t, h 0 (by decide), h 1 (by decide), h 2 (by decide), h 3 (by decide), h 4 (by decide), h 5 (by decide), h 6 (by decide), h 7 (by decide), h 8 (by decide), h 9 (by decide), h 10 (by decide), h 11 (by decide), h 12 (by decide), h 13 (by decide), h 14 (by decide), h 15 (by decide), ← V16.eta t']
theorem V256.same {α : Type} {t t' : V256 α} (h : ∀ k, k < 256 → get2 t k = get2 t' k) : t = t' := by
 refine V16.same fun n hn => V16.same fun m hm => ?_
 have := h (n * 16 + m) (by omega)
 unfold get2 at this
 have e1 : Nat.div (n * 16 + m) 16 = n := by show (n * 16 + m) / 16 = n; omega
 have e2 : Nat.mod (n * 16 + m) 16 = m := by show (n * 16 + m) % 16 = m; omega
 rw [e1, e2] at this
 exact this
variable [Env]
/-- All but some temporaries are as they were. -/
def OffW (W : List Nat) (t t' : PT AV) : Prop := t'.m = t.m ∧ t'.l = t.l ∧ ∀ k, k < 256 → W.elem k = false → get2 t'.s k = get2 t.s k
theorem OffW.refl (W : List Nat) (t : PT AV) : OffW W t t := ⟨rfl, rfl, fun _ _ _ => rfl⟩
theorem OffW.put {W : List Nat} {t t' : PT AV} {w : Nat} {o : Option AV} (hw : (W.elem w && Nat.blt w 256) = true) (h : OffW W t t') : OffW W t (t'.put o w) := by
 obtain ⟨h1, h2, h3⟩ := h
 rw [Bool.and_eq_true, blt_iff] at hw
 obtain ⟨s, m, l⟩ := t'
 rw [PT.put_s _ _ _ _ hw.2]
 refine ⟨h1, h2, fun k hk hn => ?_⟩
 show get2 (put2 s w o) k = _
 rw [get_put2 _ _ _ _ hw.2 hk, if_neg (fun e => by subst e; rw [hw.1] at hn; cases hn)]
 exact h3 k hk hn
theorem OffW.ex1 {W : List Nat} {t t' : PT AV} {w : Nat} (hw : Nat.blt w 256 = true) (h : OffW (w :: W) t t') : ∃ o, OffW W (t.put o w) t' := by
 rw [blt_iff] at hw
 obtain ⟨h1, h2, h3⟩ := h
 refine ⟨t'.get w, ?_⟩
 obtain ⟨s, m, l⟩ := t
 rw [PT.put_s _ _ _ _ hw, PT.get_s _ hw]
 refine ⟨h1, h2, fun k hk hn => ?_⟩
 show _ = get2 (put2 s w _) k
 rw [get_put2 _ _ _ _ hw hk]
 split
 ·rename_i e; rw [e]
 ·rename_i e
  refine h3 k hk ?_
  rw [List.elem_cons, hn]
  have : (k == w) = false := by simpa using e
  rw [this]
theorem OffW.ex4 {W : List Nat} {t t' : PT AV} {a b c d : Nat} (hw : (Nat.blt a 256 && (Nat.blt b 256 && (Nat.blt c 256 && Nat.blt d 256))) = true) (h : OffW (a :: b :: c :: d :: W) t t') : ∃ o1 o2 o3 o4, OffW W ((((t.put o1 a).put o2 b).put o3 c).put o4 d) t' := by
 simp only [Bool.and_eq_true] at hw
 obtain ⟨h1, h2, h3, h4⟩ := hw
 obtain ⟨o1, h⟩ := h.ex1 h1
 obtain ⟨o2, h⟩ := h.ex1 h2
 obtain ⟨o3, h⟩ := h.ex1 h3
 obtain ⟨o4, h⟩ := h.ex1 h4
 exact ⟨o1, o2, o3, o4, h⟩
theorem OffW.ex8 {W : List Nat} {t t' : PT AV} {a b c d e f g i : Nat} (hw : (Nat.blt a 256 && (Nat.blt b 256 && (Nat.blt c 256 && Nat.blt d 256))) = true) (hw2 : (Nat.blt e 256 && (Nat.blt f 256 && (Nat.blt g 256 && Nat.blt i 256))) = true) (h : OffW (a :: b :: c :: d :: e :: f :: g :: i :: W) t t') :
  ∃ o1 o2 o3 o4 o5 o6 o7 o8, OffW W ((((((((t.put o1 a).put o2 b).put o3 c).put o4 d).put o5 e).put o6 f).put o7 g).put o8 i) t' := by
 obtain ⟨o1, o2, o3, o4, h⟩ := h.ex4 hw
 obtain ⟨o5, o6, o7, o8, h⟩ := h.ex4 hw2
 exact ⟨o1, o2, o3, o4, o5, o6, o7, o8, h⟩
theorem OffW.nil {t t' : PT AV} (h : OffW [] t t') : t' = t := by
 obtain ⟨s, m, l⟩ := t
 obtain ⟨s', m', l'⟩ := t'
 obtain ⟨h1, h2, h3⟩ := h
 have : s' = s := V256.same fun k hk => h3 k hk rfl
 cases h1; cases h2; cases this; rfl
section
variable {P : Program} {G : Cx} {n : Nat} {t : PT AV} {σ : AHeap} {Q : Ex → PT AV → AHeap → Prop}
theorem eW {b : Code} (W : List Nat) (I : Nat → PT AV → AHeap → Prop) (j : Nat) (hI : I j t σ) (step : ∀ j t' σ, OffW W t t' → I j t' σ → Ev P G b n t' σ (loopQ (fun j t'' σ => OffW W t t'' ∧ I j t'' σ) j Q)) : Ev P G (.loop b) n t σ Q :=
 ev_loop' (fun j t'' σ => OffW W t t'' ∧ I j t'' σ) j ⟨OffW.refl _ _, hI⟩ fun j t' σ h => step j t' σ h.1 h.2
end
/-! Numbers. -/
theorem ltI_nat {a b : Nat} : ltI (.ofNat a) (.ofNat b) = decide (a < b) := by
 show Nat.ble (Nat.succ a) b = _
 rw [Bool.eq_iff_iff, Nat.ble_eq, decide_eq_true_iff]; rfl
theorem eqI_nat {a b : Nat} : eqI (.ofNat a) (.ofNat b) = decide (a = b) := by
 show Nat.beq a b = _
 rw [Bool.eq_iff_iff, Nat.beq_eq, decide_eq_true_iff]
/-- The number behind one that is not the greatest. -/
theorem wr_succ {i : Nat} (h : i < 9223372036854775807) : wr .i64 (Int.add (.ofNat i) (.ofNat 1)) = .ofNat (i + 1) := by
 show (bif Nat.ble (i + 1) 9223372036854775807 then _ else _) = _
 rw [show Nat.ble (i + 1) 9223372036854775807 = true from by rw [Nat.ble_eq]; exact h]
 rfl
end Go.Ev

/- Walks: regions that draw their order: the rules for a plan. -/
namespace Go.Ev
variable [Env]
section
variable {P : Program} {G : Cx} {n : Nat} {t : PT AV} {σ : AHeap} {K : KP} {L : Own} {Q : Ex → PT AV → AHeap → Prop} {ops : Array Oper} {o : Oper} {i : Nat} {rc : List Nat} {l : List (Nat × List Nat)}
theorem pW {v : AV} {t' : PT AV} {σ' : AHeap} (hi : ops[i]? = some o) (hw : wantedA ops t o = some true) (hv : opX P G (evalT G t) σ o.op = .val v σ') (hp : putT t n o.dst v = some t') (h : stillAll P G ops t' σ' rc = true ∧ EvPlan P G ops n l t' σ' Q) : EvPlan P G ops n ((i, rc) :: l) t σ Q := by
 obtain ⟨hs, K, e, t2, σ2, h1, h2⟩ := h
 refine ⟨K, e, t2, σ2, fun k hk => ?_, h2⟩
 show (match ops[i]? with
  | some o => oneX P G (runX P G k) false ops n o t σ (fun t' σ' => bif stillAll P G ops t' σ' rc then planX P G (runX P G k) ops n [] l t' σ' else .err 86)
  | none => .err 87) = _
 rw [hi]
 unfold oneX
 dsimp only
 rw [hw]
 dsimp only
 rw [hv]
 dsimp only [effX]
 rw [hp]
 dsimp only
 rw [hs]
 exact h1 k hk
theorem evPlan_skipR {t' : PT AV} {σ' : AHeap} (hi : ops[i]? = some o) (hw : wantedA ops t o = some true) (hv : opX P G (evalT G t) σ o.op = .skip σ') (hp : putT t n o.dst unit = some t') (h : stillAll P G ops t' σ' rc = true ∧ EvPlan P G ops n l t' σ' Q) : EvPlan P G ops n ((i, rc) :: l) t σ Q := by
 obtain ⟨hs, K, e, t2, σ2, h1, h2⟩ := h
 refine ⟨K, e, t2, σ2, fun k hk => ?_, h2⟩
 show (match ops[i]? with
  | some o => oneX P G (runX P G k) false ops n o t σ (fun t' σ' => bif stillAll P G ops t' σ' rc then planX P G (runX P G k) ops n [] l t' σ' else .err 86)
  | none => .err 87) = _
 rw [hi]
 unfold oneX
 dsimp only
 rw [hw]
 dsimp only
 rw [hv]
 dsimp only [effX]
 rw [hp]
 dsimp only
 rw [hs]
 exact h1 k hk
/-! What is looked at again. -/
theorem s0 : stillAll P G ops t σ [] = true := rfl
theorem sC {j : Nat} {l : List Nat} (h : stillX P G ops t σ j = true) (hl : stillAll P G ops t σ l = true) : stillAll P G ops t σ (j :: l) = true := by
 show (bif stillX P G ops t σ j then stillAll P G ops t σ l else false) = true
 rw [h]; exact hl
theorem sR {k : Nat} {v : AV} (hi : ops[i]? = some o) (hw : wantedA ops t o = some true) (hd : o.dst = some k) (hg : t.get k = some v) (hk : kindOf P o.op = .read) (h : opX P G (evalT G t) σ o.op = .val v σ) (hb : beqA v v = true) : stillX P G ops t σ i = true := by
 have hr : readA P (evalT G t) σ o.op = some v := by
  unfold opX at h
  rw [hk] at h
  dsimp only at h
  split at h
  ·rename_i u hu; cases h; exact hu
  ·cases h
 unfold stillX
 rw [hi]
 dsimp only
 rw [hw]
 dsimp only
 rw [hd]
 dsimp only
 rw [show t.get (posOf k) = some v from hg]
 dsimp only
 rw [hk]
 dsimp only
 rw [hr]
 exact hb
theorem sU (hi : ops[i]? = some o) (hw : wantedA ops t o = some false) : stillX P G ops t σ i = true := by
 unfold stillX
 rw [hi]
 dsimp only
 rw [hw]
theorem sP {k b e : Nat} {cs : List AV} (hi : ops[i]? = some o) (hw : wantedA ops t o = some true) (hd : o.dst = some k) (hg : t.get k = some (.ptr b 0)) (hk : kindOf P o.op = .alloc) (ha : allocA P (evalT G t) o.op = some (.row cs e false, .ptr)) (hm : σ.m.get b = some (.row cs e false)) (hb : beqA.beqL cs cs = true) : stillX P G ops t σ i = true := by
 unfold stillX
 rw [hi]
 dsimp only
 rw [hw]
 dsimp only
 rw [hd]
 dsimp only
 rw [show t.get (posOf k) = some (.ptr b 0) from hg]
 dsimp only
 rw [hk]
 dsimp only
 rw [ha]
 show (match σ.m.get b with | some (.row cs' e' false) => Nat.beq e e' && beqA.beqL cs cs' | _ => false) = true
 rw [hm]
 show (Nat.beq e e && beqA.beqL cs cs) = true
 rw [hb, Nat.beq_refl]; rfl
theorem beq1_int (k : IntKind) (n : Int) : beqA.beq1 (.int k n) (.int k n) = true := by
 show (eqK k k && eqI n n) = true
 rw [eqI_eq]; cases k <;> simp [eqK]
theorem beq1_str (s : List Nat) : beqA.beq1 (.str s) (.str s) = true := by
 show eqS s s = true
 rw [eqS_eq]; simp
theorem beq1_bool (b : Bool) : beqA.beq1 (.bool b) (.bool b) = true := by cases b <;> rfl
theorem HasS.beq1 {α : Type} {K : KP} {m : Nat} {R : α → List AV → Prop} {l : List α} {v : AV} (h : HasS K m R l v) : beqA.beq1 v v = true := by
 rcases h with ⟨_, rfl⟩ | ⟨b, off, c, cells, e, ro, rfl, hc, _⟩
 ·rfl
 ·show (beqA.beqP b b && Nat.beq off off && Nat.beq l.length l.length && beqA.beqC c c) = true
  have hp : beqA.beqP b b = true := Nat.beq_refl b
  have hcc : beqA.beqC c c = true := by
   rcases hc with rfl | ⟨n, rfl, _⟩
   ·exact Nat.beq_refl m
   ·exact Nat.beq_refl n
  simp [hp, hcc]
theorem beqL_nil : beqA.beqL [] [] = true := rfl
theorem beqL_cons {v : AV} {vs : List AV} (h : beqA.beq1 v v = true) (hs : beqA.beqL vs vs = true) : beqA.beqL (v :: vs) (v :: vs) = true := by
 show (bif beqA.beq1 v v then beqA.beqL vs vs else false) = true
 rw [h]; exact hs
theorem beqA_agg {vs : List AV} (h : beqA.beqL vs vs = true) : beqA (.agg vs) (.agg vs) = true := h

theorem ps_ {c : Bool} {t' : Bool → PT AV} (hi0 : ops[i]? = some o) (hw : wantedA ops t o = some true) (hv : opX P G (evalT G t) σ o.op = .val (.bool c) σ) (hp : ∀ b, putT t n o.dst (.bool b) = some (t' b))
  (h1 : c = true → EvPlan P G ops n l (t' true) σ Q) (h0 : c = false → EvPlan P G ops n l (t' false) σ Q) : EvPlan P G ops n ((i, []) :: l) t σ Q := by
 refine pV hi0 hw hv (hp c) ?_
 cases c with
 | true => exact h1 rfl
 | false => exact h0 rfl
theorem pp_ (hs : St σ K L) {ob : AObj} {t' : Nat → PT AV} (hi0 : ops[i]? = some o) (hw : wantedA ops t o = some true) (hv : opX P G (evalT G t) σ o.op = .val (.ptr σ.next 0) (σ.alloc ob)) (hp : ∀ b, putT t n o.dst (.ptr b 0) = some (t' b))
  (h : ∀ (σ' : AHeap) (b : Nat), St σ' K ((b, ob) :: L) → EvPlan P G ops n l (t' b) σ' Q) : EvPlan P G ops n ((i, []) :: l) t σ Q :=
 pV hi0 hw hv (hp _) (h _ _ (hs.alloc ob))
theorem p_mk (hs : St σ K L) {ob : AObj} {k c : Nat} {t' : Nat → PT AV} (hi0 : ops[i]? = some o) (hw : wantedA ops t o = some true) (hv : opX P G (evalT G t) σ o.op = .val (.slice σ.next 0 k (.known c)) (σ.alloc ob)) (hp : ∀ b, putT t n o.dst (.slice b 0 k (.known c)) = some (t' b))
  (h : ∀ (σ' : AHeap) (b : Nat), St σ' K ((b, ob) :: L) → EvPlan P G ops n l (t' b) σ' Q) : EvPlan P G ops n ((i, []) :: l) t σ Q :=
 pV hi0 hw hv (hp _) (h _ _ (hs.alloc ob))
theorem p_set0 {b : Nat} {ob ob' : AObj} {t' : PT AV} (hs : St σ K ((b, ob) :: L)) (hi0 : ops[i]? = some o) (hw : wantedA ops t o = some true) (hv : opX P G (evalT G t) σ o.op = .skip (σ.setObj b ob')) (hp : putT t n o.dst unit = some t')
  (h : ∀ σ', St σ' K ((b, ob') :: L) → (stillAll P G ops t' σ' rc = true ∧ EvPlan P G ops n l t' σ' Q)) : EvPlan P G ops n ((i, rc) :: l) t σ Q := evPlan_skipR hi0 hw hv hp (h _ (hs.set0 ob'))
theorem p_set1 {b : Nat} {ob ob' : AObj} {x : Nat × AObj} {t' : PT AV} (hs : St σ K (x :: (b, ob) :: L)) (hi0 : ops[i]? = some o) (hw : wantedA ops t o = some true) (hv : opX P G (evalT G t) σ o.op = .skip (σ.setObj b ob')) (hp : putT t n o.dst unit = some t')
  (h : ∀ σ', St σ' K (x :: (b, ob') :: L) → (stillAll P G ops t' σ' rc = true ∧ EvPlan P G ops n l t' σ' Q)) : EvPlan P G ops n ((i, rc) :: l) t σ Q := evPlan_skipR hi0 hw hv hp (h _ (hs.set1 ob'))
theorem p_set2 {b : Nat} {ob ob' : AObj} {x y : Nat × AObj} {t' : PT AV} (hs : St σ K (x :: y :: (b, ob) :: L)) (hi0 : ops[i]? = some o) (hw : wantedA ops t o = some true) (hv : opX P G (evalT G t) σ o.op = .skip (σ.setObj b ob')) (hp : putT t n o.dst unit = some t')
  (h : ∀ σ', St σ' K (x :: y :: (b, ob') :: L) → (stillAll P G ops t' σ' rc = true ∧ EvPlan P G ops n l t' σ' Q)) : EvPlan P G ops n ((i, rc) :: l) t σ Q := evPlan_skipR hi0 hw hv hp (h _ (hs.set2 ob'))
theorem p_set3 {b : Nat} {ob ob' : AObj} {x y z : Nat × AObj} {t' : PT AV} (hs : St σ K (x :: y :: z :: (b, ob) :: L)) (hi0 : ops[i]? = some o) (hw : wantedA ops t o = some true) (hv : opX P G (evalT G t) σ o.op = .skip (σ.setObj b ob')) (hp : putT t n o.dst unit = some t')
  (h : ∀ σ', St σ' K (x :: y :: z :: (b, ob') :: L) → (stillAll P G ops t' σ' rc = true ∧ EvPlan P G ops n l t' σ' Q)) : EvPlan P G ops n ((i, rc) :: l) t σ Q := evPlan_skipR hi0 hw hv hp (h _ (hs.set3 ob'))
theorem pi {α : Type} {m : Nat} {R : α → List AV → Prop} {la : List α} {v : AV} {ix : Nat} {x : α} {ty e : TypeId} {xo io : Operand} {k : IntKind} {t' : AV → PT AV} (hs : HasS K m R la v) (hi : la[ix]? = some x) (hi0 : ops[i]? = some o) (hw : wantedA ops t o = some true) (ho : o.op = .indexAddr ty xo io)
  (ht : P.underlying ty = some (.slice e)) (hj : (P.info? e).map (·.size) = some m) (hx : evalT G t xo = some v) (hio : evalT G t io = some (.int k (.ofNat ix))) (hp : ∀ p, putT t n o.dst p = some (t' p))
  (h : ∀ p vs, PtsTo K p vs → vs.length = m → R x vs → EvPlan P G ops n l (t' p) σ Q) : EvPlan P G ops n ((i, []) :: l) t σ Q := by
 obtain ⟨b, off, c, vs, rfl, hlt, h1, h2, h3⟩ := hs.at hi
 refine pV hi0 hw ?_ (hp _) (h _ vs h1 h2 h3)
 rw [ho]
 exact x_idx ht hj hx hio hlt
theorem p_pfield {p : AV} {vs : List AV} {s : TypeId} {xo : Operand} {fi k : Nat} {t' : AV → PT AV} (hpt : PtsTo K p vs) (hi0 : ops[i]? = some o) (hw : wantedA ops t o = some true) (ho : o.op = .fieldAddr s xo fi) (hx : evalT G t xo = some p) (hk : faOff P s fi = some k) (hl : k ≤ vs.length) (hp : ∀ p, putT t n o.dst p = some (t' p))
  (h : ∀ p', PtsTo K p' (vs.drop k) → EvPlan P G ops n l (t' p') σ Q) : EvPlan P G ops n ((i, []) :: l) t σ Q := by
 obtain ⟨b, off, cells, e, ro, rfl, h2, h3, h4⟩ := hpt
 refine pV hi0 hw ?_ (hp _) (h _ ⟨b, off + k, cells, e, ro, rfl, h2, by rw [List.length_drop]; omega, ?_⟩)
 ·rw [ho]
  exact xF hx hk
 ·rw [List.length_drop]
  conv => rhs; rw [← h4]
  rw [List.drop_take, List.drop_drop]
theorem pc {f : Nat} {args : List AV} {t' : AV → PT AV} {R : AV → AHeap → Prop} (hi0 : ops[i]? = some o) (hw : wantedA ops t o = some true) (hv : opX P G (evalT G t) σ o.op = .enter f args σ) (hp : ∀ v, putT t n o.dst v = some (t' v))
  (hc : EvCall P G f args σ R) (h : ∀ v σ', R v σ' → (stillAll P G ops (t' v) σ' rc = true ∧ EvPlan P G ops n l (t' v) σ' Q)) : EvPlan P G ops n ((i, rc) :: l) t σ Q := by
 refine evPlan_call hi0 hw hv (hc.mono fun v σ' hr => ?_)
 obtain ⟨h1, h2⟩ := h v σ' hr
 exact ⟨_, hp v, h1, h2⟩
theorem pb {f : Nat} {args : List AV} {c : Bool} {t' : AV → PT AV} (hi0 : ops[i]? = some o) (hw : wantedA ops t o = some true) (hv : opX P G (evalT G t) σ o.op = .enter f args σ) (hp : ∀ v, putT t n o.dst v = some (t' v))
  (hc : EvCall P G f args σ fun v σ' => v = .bool c ∧ St σ' K L) (h1 : c = true → ∀ σ', St σ' K L → (stillAll P G ops (t' (.bool true)) σ' rc = true ∧ EvPlan P G ops n l (t' (.bool true)) σ' Q)) (h0 : c = false → ∀ σ', St σ' K L → (stillAll P G ops (t' (.bool false)) σ' rc = true ∧ EvPlan P G ops n l (t' (.bool false)) σ' Q)) : EvPlan P G ops n ((i, rc) :: l) t σ Q :=
 pc hi0 hw hv hp hc fun v σ' ⟨hv, hst⟩ => by
  subst hv
  cases c with
  | true => exact h1 rfl σ' hst
  | false => exact h0 rfl σ' hst
theorem pv_ {f : Nat} {args : List AV} {u : AV} {t' : AV → PT AV} (hi0 : ops[i]? = some o) (hw : wantedA ops t o = some true) (hv : opX P G (evalT G t) σ o.op = .enter f args σ) (hp : ∀ v, putT t n o.dst v = some (t' v))
  (hc : EvCall P G f args σ fun v σ' => v = u ∧ St σ' K L) (h : ∀ σ', St σ' K L → (stillAll P G ops (t' u) σ' rc = true ∧ EvPlan P G ops n l (t' u) σ' Q)) : EvPlan P G ops n ((i, rc) :: l) t σ Q :=
 pc hi0 hw hv hp hc fun v σ' ⟨hv, hst⟩ => by subst hv; exact h σ' hst
theorem eP {id : Nat} {l : List (Nat × List Nat)} (hf : fastOK P ops = true) (hl : plan P ops = l) (h : EvPlan P G ops n l t σ Q) : Ev P G (.region id ops true) n t σ Q := by
 subst hl; exact ev_region_draw hf h
end
end Go.Ev
namespace Go.Ev
variable [Env]
section
variable {P : Program} {G : Cx} {n : Nat} {t : PT AV} {σ : AHeap} {Q : Ex → PT AV → AHeap → Prop} {ops : Array Oper} {o : Oper} {l : List Oper}
/-- A call whose answer is a truth, and which leaves the heap as it is. -/
theorem o_callB0 {f : Nat} {args : List AV} {c : Bool} {t' : AV → PT AV} (hw : wantedA ops t o = some true) (hv : opX P G (evalT G t) σ o.op = .enter f args σ) (hp : ∀ v, putT t n o.dst v = some (t' v))
  (hc : EvCall P G f args σ fun v σ' => v = .bool c ∧ σ' = σ) (h : EvOps P G ops n l (t' (.bool c)) σ Q) : EvOps P G ops n (o :: l) t σ Q :=
 oC hw hv hp hc fun v σ' ⟨hv, hs⟩ => by subst hv; subst hs; exact h
end
end Go.Ev

/- What stands for expressions, code, events, graphs. -/
namespace Go.Ev
variable [Env]
inductive XE where
 | mk (op num : Int) (name : List Nat) (kids : List XE)
structure XI where
 kind : Int
 reg : Int
 loc : Int
 order : Int
 to : Int
 exprs : List XE
structure XC where
 regs : Int
 ins : List XI
def HasE (K : KP) : Nat → XE → List AV → Prop
 | 0, _, _ => False
 | k + 1, .mk op num name kids, vs => ∃ v, vs = [.int .i64 op, .int .i64 num, .str name, v] ∧ HasS K 4 (HasE K k) kids v
def HasI (K : KP) (k : Nat) (x : XI) (vs : List AV) : Prop := ∃ v, vs = [.int .i64 x.kind, .int .i64 x.reg, .int .i64 x.loc, .int .i64 x.order, .int .i64 x.to, v] ∧ HasS K 4 (HasE K k) x.exprs v
def HasC (K : KP) (k : Nat) (x : XC) (vs : List AV) : Prop := ∃ v, vs = [.int .i64 x.regs, v] ∧ HasS K 6 (HasI K k) x.ins v
def XE.kids : XE → List XE
 | .mk _ _ _ k => k
theorem HasE.shape {K : KP} {k : Nat} {x : XE} {vs : List AV} (h : HasE K k x vs) : ∃ op num name v, vs = [.int .i64 op, .int .i64 num, .str name, v] ∧ HasS K 4 (HasE K (k - 1)) x.kids v := by
 cases k with
 | zero => cases x; exact h.elim
 | succ k =>
  obtain ⟨op, num, name, kids⟩ := x
  obtain ⟨v, rfl, hk⟩ := h
  exact ⟨_, _, _, v, rfl, hk⟩
open Classical in
/-- Are two the same? -/
noncomputable def sameX {α : Type} (a b : α) : Bool := decide (a = b)
theorem sameX_iff {α : Type} {a b : α} : sameX a b = true ↔ a = b := by unfold sameX; simp
theorem sameX_no {α : Type} {a b : α} : sameX a b = false ↔ a ≠ b := by unfold sameX; simp
theorem notB_t {c : Bool} (h : (bif c then false else true) = true) : c = false := by cases c <;> simp_all
theorem notB_f {c : Bool} (h : (bif c then false else true) = false) : c = true := by cases c <;> simp_all
theorem sameX_E {o1 n1 o2 n2 : Int} {s1 s2 : List Nat} {k1 k2 : List XE} : sameX (XE.mk o1 n1 s1 k1) (XE.mk o2 n2 s2 k2) = (eqI o1 o2 && (eqI n1 n2 && (eqS s1 s2 && sameX k1 k2))) := by
 rw [eqI_eq, eqI_eq, eqS_eq, Bool.eq_iff_iff, sameX_iff]
 simp [sameX_iff]
theorem sameX_I {a b : XI} : sameX a b = (eqI a.kind b.kind && (eqI a.reg b.reg && (eqI a.loc b.loc && (eqI a.order b.order && (eqI a.to b.to && sameX a.exprs b.exprs))))) := by
 rw [eqI_eq, eqI_eq, eqI_eq, eqI_eq, eqI_eq, Bool.eq_iff_iff, sameX_iff]
 cases a; cases b
 simp [sameX_iff]
theorem sameX_C {a b : XC} : sameX a b = (eqI a.regs b.regs && sameX a.ins b.ins) := by
 rw [eqI_eq, Bool.eq_iff_iff, sameX_iff]
 cases a; cases b
 simp [sameX_iff]
theorem sameX_len {α : Type} {l1 l2 : List α} (h : eqI (.ofNat l1.length) (.ofNat l2.length) = false) : sameX l1 l2 = false := by
 rw [sameX_no]
 rintro rfl
 rw [eqI_eq] at h
 simp at h
theorem len_of {α β : Type} {l1 : List α} {l2 : List β} (h : eqI (.ofNat l1.length) (.ofNat l2.length) = true) : l1.length = l2.length := by
 rw [eqI_eq] at h
 exact Int.ofNat.inj (of_decide_eq_true h)
theorem sameX_at {α : Type} {l1 l2 : List α} {i : Nat} {x y : α} (hx : l1[i]? = some x) (hy : l2[i]? = some y) (h : sameX x y = false) : sameX l1 l2 = false := by
 rw [sameX_no] at h ⊢
 rintro rfl
 rw [hx] at hy
 exact h (Option.some.inj hy)
theorem sameX_all {α : Type} {l1 l2 : List α} {i : Nat} (hl : l1.length = l2.length) (hi : l1.length ≤ i) (h : ∀ k, k < i → l1[k]? = l2[k]?) : sameX l1 l2 = true := by
 rw [sameX_iff]
 refine List.ext_getElem? fun k => ?_
 by_cases hk : k < i
 ·exact h k hk
 ·rw [List.getElem?_eq_none (by omega), List.getElem?_eq_none (by omega)]
theorem same_step {α : Type} {l1 l2 : List α} {i : Nat} {x y : α} (h : ∀ k, k < i → l1[k]? = l2[k]?) (hx : l1[i]? = some x) (hy : l2[i]? = some y) (hs : sameX x y = true) : ∀ k, k < i + 1 → l1[k]? = l2[k]? := fun k hk => by
 rw [sameX_iff] at hs
 by_cases e : k = i
 ·subst e; rw [hx, hy, hs]
 ·exact h k (by omega)
theorem lt_no {a b : Nat} (h : ltI (.ofNat a) (.ofNat b) = false) : b ≤ a := by
 rw [ltI_eq, decide_eq_false_iff_not] at h
 have h : ¬ a < b := fun e => h (Int.ofNat_lt.2 e)
 omega
theorem lt_yes {a b : Nat} (h : ltI (.ofNat a) (.ofNat b) = true) : a < b := by
 rw [ltI_eq, decide_eq_true_iff] at h
 exact Int.ofNat_lt.1 h
theorem at_of {α : Type} {l : List α} {i : Nat} (h : i < l.length) : ∃ x, l[i]? = some x := ⟨l[i], List.getElem?_eq_getElem h⟩
/-! What the kit asks of codes. -/
noncomputable def heftL (f : XE → Int → Int) : List XE → Int → Int
 | [], m => m
 | x :: r, m => bif ltI m 0 then m else heftL f r (f x m)
noncomputable def heft0 (name : List Nat) (left : Int) : Int := wr .i64 (Int.sub (wr .i64 (Int.sub left 1)) (wr .i64 (Int.tdiv (.ofNat (lenN name)) 20)))
noncomputable def heftK : Nat → XE → Int → Int
 | 0, _, m => m
 | k + 1, .mk _ _ name kids, m => heftL (heftK k) kids (heft0 name m)
noncomputable def lightE (k : Nat) (x : XE) (most : Int) : Bool := bif ltI (heftK k x most) 0 then false else true
noncomputable def lightI (k : Nat) (x : XI) : Bool := bif ltI 4 (.ofNat x.exprs.length) then false else x.exprs.all fun e => lightE k e 60
noncomputable def lightX (k : Nat) (most : Int) (x : XC) : Bool := bif ltI most (.ofNat x.ins.length) then false else x.ins.all (lightI k)
noncomputable def lightXs (k : Nat) (most : Int) (l : List XC) : Bool := (l.take 6).all (lightX k most) && (bif ltI 6 (.ofNat l.length) then false else true)
theorem heftL_nil {f : XE → Int → Int} {l : List XE} {i : Nat} {m : Int} (h : l.length ≤ i) : heftL f (l.drop i) m = m := by rw [List.drop_eq_nil_of_le h]; rfl
theorem heftL_neg {f : XE → Int → Int} {l : List XE} {m : Int} (h : ltI m 0 = true) : heftL f l m = m := by
 cases l with
 | nil => rfl
 | cons x r => show (bif ltI m 0 then m else _) = m; rw [h]; rfl
theorem heftL_step {f : XE → Int → Int} {l : List XE} {i : Nat} {m : Int} {x : XE} (hx : l[i]? = some x) (h : ltI m 0 = false) : heftL f (l.drop i) m = heftL f (l.drop (i + 1)) (f x m) := by
 have hlt : i < l.length := (List.getElem?_eq_some_iff.1 hx).1
 rw [List.drop_eq_getElem_cons hlt]
 have : l[i] = x := (List.getElem?_eq_some_iff.1 hx).2
 rw [this]
 show (bif ltI m 0 then m else _) = _
 rw [h]; rfl
theorem all_at {α : Type} {f : α → Bool} {l : List α} {i : Nat} {x : α} (hx : l[i]? = some x) (h : f x = false) : l.all f = false := by
 rw [List.all_eq_false]
 exact ⟨x, List.mem_of_getElem? hx, by rw [h]; simp⟩
theorem all_at' {α : Type} {f : α → Bool} {l : List α} {i n : Nat} {x : α} (hx : l[i]? = some x) (hi : i < n) (h : f x = false) : (l.take n).all f = false := all_at (i := i) (by rw [List.getElem?_take, if_pos hi, hx]) h
theorem all_step {α : Type} {f : α → Bool} {l : List α} {i : Nat} {x : α} (ha : (l.take i).all f = true) (hx : l[i]? = some x) (h : f x = true) : (l.take (i + 1)).all f = true := by
 rw [List.take_add_one, hx, List.all_append, ha]
 simp [h]
theorem all_end {α : Type} {f : α → Bool} {l : List α} {i : Nat} (ha : (l.take i).all f = true) (h : l.length ≤ i) : l.all f = true := by
 rw [List.take_of_length_le h] at ha; exact ha
theorem all_end' {α : Type} {f : α → Bool} {l : List α} {i n : Nat} (ha : (l.take i).all f = true) (h : n ≤ i) : (l.take n).all f = true := by
 rw [List.all_eq_true] at ha ⊢
 exact fun x hx => ha x (by
  obtain ⟨j, hj⟩ := List.getElem?_of_mem hx
  rw [List.getElem?_take] at hj
  split at hj
  ·exact List.mem_of_getElem? (i := j) (by rw [List.getElem?_take, if_pos (by omega), hj])
  ·cases hj)
theorem HasE.beq {K : KP} {k : Nat} {x : XE} {vs : List AV} (h : HasE K k x vs) : beqA (.agg vs) (.agg vs) = true := by
 cases k with
 | zero => cases x; exact h.elim
 | succ k =>
  obtain ⟨op, num, name, kids⟩ := x
  obtain ⟨v, rfl, hk⟩ := h
  exact beqA_agg (beqL_cons (beq1_int _ _) (beqL_cons (beq1_int _ _) (beqL_cons (beq1_str _) (beqL_cons hk.beq1 beqL_nil))))
theorem HasI.beq {K : KP} {k : Nat} {x : XI} {vs : List AV} (h : HasI K k x vs) : beqA (.agg vs) (.agg vs) = true := by
 obtain ⟨v, rfl, hk⟩ := h
 exact beqA_agg (beqL_cons (beq1_int _ _) (beqL_cons (beq1_int _ _) (beqL_cons (beq1_int _ _) (beqL_cons (beq1_int _ _) (beqL_cons (beq1_int _ _) (beqL_cons hk.beq1 beqL_nil))))))
theorem HasC.beq {K : KP} {k : Nat} {x : XC} {vs : List AV} (h : HasC K k x vs) : beqA (.agg vs) (.agg vs) = true := by
 obtain ⟨v, rfl, hk⟩ := h
 exact beqA_agg (beqL_cons (beq1_int _ _) (beqL_cons hk.beq1 beqL_nil))
theorem at_lt {α : Type} {l : List α} {i : Nat} (h : ltI (.ofNat i) (.ofNat l.length) = true) : ∃ x, l[i]? = some x ∧ i < l.length := by
 rw [ltI_eq, decide_eq_true_iff] at h
 have h : i < l.length := Int.ofNat_lt.1 h
 exact ⟨l[i], List.getElem?_eq_getElem h, h⟩
end Go.Ev
namespace Go.Ev
variable [Env]
/-- An integer's cell; a slice's. -/
def RInt (n : Int) (vs : List AV) : Prop := vs = [.int .i64 n]
def RL {α : Type} (K : KP) (m : Nat) (R : α → List AV → Prop) (l : List α) (vs : List AV) : Prop := ∃ v, vs = [v] ∧ HasS K m R l v
theorem eqI_same {a b : Int} : eqI a b = sameX a b := by rw [eqI_eq, Bool.eq_iff_iff, decide_eq_true_iff, sameX_iff]
theorem any_step {α : Type} {f : α → Bool} {l : List α} {i : Nat} {x : α} (ha : (l.take i).any f = false) (hx : l[i]? = some x) (h : f x = false) : (l.take (i + 1)).any f = false := by
 rw [List.take_add_one, hx, List.any_append, ha]
 simp [h]
theorem any_at {α : Type} {f : α → Bool} {l : List α} {i : Nat} {x : α} (hx : l[i]? = some x) (h : f x = true) : l.any f = true := by
 rw [List.any_eq_true]
 exact ⟨x, List.mem_of_getElem? hx, h⟩
theorem any_end {α : Type} {f : α → Bool} {l : List α} {i : Nat} (ha : (l.take i).any f = false) (h : l.length ≤ i) : l.any f = false := by
 rw [List.take_of_length_le h] at ha; exact ha
end Go.Ev

/- Structs of integers, compared; events, Ids, graphs. -/
namespace Go.Ev
variable [Env]
/-! Lists of integers, quickly compared. -/
noncomputable def eqIs (xs ys : List Int) : Bool :=
 List.rec (motive := fun _ => List Int → Bool) (fun ys => List.rec (motive := fun _ => Bool) true (fun _ _ _ => false) ys)
  (fun x _ ih ys => List.rec (motive := fun _ => Bool) false (fun y r _ => bif eqI x y then ih r else false) ys) xs ys
theorem eqIs_eq : ∀ (xs ys : List Int), eqIs xs ys = sameX xs ys
 | [], [] => by rw [show eqIs [] [] = true from rfl, eq_comm, sameX_iff]
 | [], _ :: _ => by rw [show eqIs [] (_ :: _) = false from rfl, eq_comm, sameX_no]; simp
 | _ :: _, [] => by rw [show eqIs (_ :: _) [] = false from rfl, eq_comm, sameX_no]; simp
 | x :: xs, y :: ys => by
  show (bif eqI x y then eqIs xs ys else false) = _
  rw [eqIs_eq xs ys, eqI_eq, Bool.eq_iff_iff, sameX_iff]
  by_cases h : x = y
  ·subst h; simp [sameX_iff]
  ·simp [h]

def ints (xs : List Int) : List AV := xs.map (.int .i64)
def isI64 : Option TypeDesc → Bool
 | some (.int .i64) => true
 | _ => false
noncomputable def fieldsInt (P : Program) (fs : List Field) : Nat → Bool := List.rec (motive := fun _ => Nat → Bool) (fun _ => true) (fun f _ ih k => isI64 (P.underlying f.type) && (Nat.beq f.offset k && ih (k + 1))) fs
/-- Is it a struct of so many integers? -/
noncomputable def structInt (P : Program) (t : TypeId) (n : Nat) : Bool :=
 match structOf P t with
 | some fs => fieldsInt P fs.toList 0 && (Nat.beq fs.toList.length n && (!P.eqGuardType P.depth t && (!P.stoodInHeld t && noBlank fs.toList)))
 | none => false
theorem eqFields_ints {P : Program} : ∀ (fs : List Field) (k : Nat) (xs ys : List Int), fieldsInt P fs k = true → xs.length = k + fs.length → ys.length = k + fs.length → eqFields P fs (ints xs) (ints ys) = some (eqIs (xs.drop k) (ys.drop k))
 | [], k, xs, ys, _, h1, h2 => by
  rw [List.drop_eq_nil_of_le (by simp at h1; omega), List.drop_eq_nil_of_le (by simp at h2; omega)]; rfl
 | f :: fs, k, xs, ys, h, h1, h2 => by
  have h' : (isI64 (P.underlying f.type) && (Nat.beq f.offset k && fieldsInt P fs (k + 1))) = true := h
  simp only [Bool.and_eq_true] at h'
  obtain ⟨e1, e2, e3⟩ := h'
  have hk : f.offset = k := Nat.eq_of_beq_eq_true e2
  have hu : P.underlying f.type = some (.int .i64) := by
   unfold isI64 at e1
   split at e1
   ·assumption
   ·cases e1
  have l1 : k < xs.length := by simp at h1; omega
  have l2 : k < ys.length := by simp at h2; omega
  have n1 : nth (ints xs) f.offset = some (.int .i64 xs[k]) := by rw [nth_eq, hk, ints, List.getElem?_map, List.getElem?_eq_getElem l1]; rfl
  have n2 : nth (ints ys) f.offset = some (.int .i64 ys[k]) := by rw [nth_eq, hk, ints, List.getElem?_map, List.getElem?_eq_getElem l2]; rfl
  have ih := eqFields_ints fs (k + 1) xs ys e3 (by simp at h1 ⊢; omega) (by simp at h2 ⊢; omega)
  show (match P.underlying f.type, nth (ints xs) f.offset, nth (ints ys) f.offset with
   | some .bool, some (.bool a), some (.bool b) => bif (bif a then b else (bif b then false else true)) then eqFields P fs (ints xs) (ints ys) else some false
   | some (.int _), some (.int j a), some (.int k b) => bif eqK j k then (bif eqI a b then eqFields P fs (ints xs) (ints ys) else some false) else none
   | some .string, some (.str a), some (.str b) => bif eqS a b then eqFields P fs (ints xs) (ints ys) else some false
   | some (.struct gs), _, _ => _
   | some (.array m e), _, _ => _
   | _, _, _ => none) = _
  rw [hu, n1, n2, List.drop_eq_getElem_cons l1, List.drop_eq_getElem_cons l2, ih]
  show (bif eqI xs[k] ys[k] then _ else some false) = some (bif eqI xs[k] ys[k] then eqIs (xs.drop (k + 1)) (ys.drop (k + 1)) else false)
  cases eqI xs[k] ys[k] <;> rfl
theorem eqA_ints {P : Program} {t : TypeId} {n : Nat} {xs ys : List Int} (h : structInt P t n = true) (hx : xs.length = n) (hy : ys.length = n) : eqA P t (.agg (ints xs)) (.agg (ints ys)) = some (sameX xs ys) := by
 unfold structInt at h
 split at h
 ·rename_i fs hs
  simp only [Bool.and_eq_true, Bool.not_eq_true'] at h
  obtain ⟨h1, h2, h3, h4, h5⟩ := h
  have hn : fs.toList.length = n := Nat.eq_of_beq_eq_true h2
  unfold eqA
  dsimp only
  rw [hs]
  dsimp only
  rw [h3, h4, h5]
  simp only [Bool.not_true, Bool.or_false, cond_false]
  rw [eqFields_ints fs.toList 0 xs ys h1 (by omega) (by omega), List.drop_zero, List.drop_zero, eqIs_eq]
 ·cases h
section
variable {P : Program} {G : Cx} {ev : Operand → Option AV} {σ : AHeap}
theorem x_eqS {t r : TypeId} {x y : Operand} {n : Nat} {ca cb : List Int} (h : structInt P t n = true) (ha : ca.length = n) (hb : cb.length = n) (hx : ev x = some (.agg (ints ca))) (hy : ev y = some (.agg (ints cb))) : opX P G ev σ (.binOp .eql t x y r) = .val (.bool (sameX ca cb)) σ := by
 refine xB hx hy ?_
 show eqOpA P .eql t _ _ = _
 unfold eqOpA
 dsimp only
 rw [eqA_ints h ha hb]
theorem x_neS {t r : TypeId} {x y : Operand} {n : Nat} {ca cb : List Int} (h : structInt P t n = true) (ha : ca.length = n) (hb : cb.length = n) (hx : ev x = some (.agg (ints ca))) (hy : ev y = some (.agg (ints cb))) : opX P G ev σ (.binOp .neq t x y r) = .val (.bool (bif sameX ca cb then false else true)) σ := by
 refine xB hx hy ?_
 show eqOpA P .neq t _ _ = _
 unfold eqOpA
 dsimp only
 rw [eqA_ints h ha hb]
end
/-! Ids, events, graphs. -/
structure XId where
 thread : Int
 index : Int
structure XEv where
 kind : Int
 loc : Int
 order : Int
 read : Int
 write : Int
structure XG where
 init : List Int
 threads : List (List XEv)
 from_ : List (List XId)
 order : List (List XId)
def XId.ints (x : XId) : List Int := [x.thread, x.index]
def XEv.ints (x : XEv) : List Int := [x.kind, x.loc, x.order, x.read, x.write]
theorem XId.same {x y : XId} : sameX x.ints y.ints = sameX x y := by
 rw [Bool.eq_iff_iff, sameX_iff, sameX_iff]
 cases x; cases y; simp [XId.ints]
theorem XEv.same {x y : XEv} : sameX x.ints y.ints = sameX x y := by
 rw [Bool.eq_iff_iff, sameX_iff, sameX_iff]
 cases x; cases y; simp [XEv.ints]
def RId (x : XId) (vs : List AV) : Prop := vs = ints x.ints
def REv (x : XEv) (vs : List AV) : Prop := vs = ints x.ints
/-- A graph's four slices. -/
structure HasG (K : KP) (g : XG) (a b c d : AV) : Prop where
 init : HasS K 1 RInt g.init a
 threads : HasS K 1 (RL K 5 REv) g.threads b
 from_ : HasS K 1 (RL K 2 RId) g.from_ c
 order : HasS K 1 (RL K 2 RId) g.order d
theorem sameX_G {a b : XG} : sameX a b = (sameX a.init b.init && (sameX a.threads b.threads && (sameX a.from_ b.from_ && sameX a.order b.order))) := by
 rw [Bool.eq_iff_iff, sameX_iff]
 cases a; cases b; simp [sameX_iff]
end Go.Ev

/- What the graph layer's functions tell, as plain functions. -/
namespace Go.Ev
variable [Env]
noncomputable def readsB (e : XEv) : Bool := bif eqI e.kind 1 then true else eqI e.kind 3
noncomputable def writesB (e : XEv) : Bool := bif eqI e.kind 2 then true else eqI e.kind 3
noncomputable def notB (b : Bool) : Bool := bif b then false else true
noncomputable def rightEvB (e : XEv) (n : Int) : Bool :=
 bif ltI e.kind 1 then false else bif ltI 4 e.kind then false else bif ltI e.order 1 then false else bif ltI 6 e.order then false else
 bif (bif (!readsB e) then notB (eqI e.read 0) else false) then false else bif (bif (!writesB e) then notB (eqI e.write 0) else false) then false else
 bif eqI e.kind 4 then eqI e.loc 0 else bif notB (ltI e.loc 0) then ltI e.loc n else false
def evAt (g : XG) (id : XId) : Option XEv :=
 match id.thread, id.index with
 | .ofNat 0, .ofNat i => (g.init[i]?).map fun v => ⟨2, i, 1, 0, v⟩
 | .ofNat (t + 1), .ofNat i => (g.threads[t]?).bind (·[i]?)
 | _, _ => none
def evD (x : Option XEv) : XEv := x.getD ⟨0, 0, 0, 0, 0⟩
theorem evAt_neg1 {g : XG} {th ix : Int} (h : ltI th 0 = true) : evAt g ⟨th, ix⟩ = none := by
 rw [ltI_eq, decide_eq_true_iff] at h
 cases th with
 | ofNat t => exact absurd h (by simp)
 | negSucc t => rfl
theorem evAt_neg2 {g : XG} {th ix : Int} (h : ltI ix 0 = true) : evAt g ⟨th, ix⟩ = none := by
 rw [ltI_eq, decide_eq_true_iff] at h
 cases ix with
 | ofNat t => exact absurd h (by simp)
 | negSucc t => cases th with
  | ofNat n => cases n <;> rfl
  | negSucc n => rfl
theorem evAt_big {g : XG} {th ix : Int} (h : ltI (.ofNat g.threads.length) th = true) : evAt g ⟨th, ix⟩ = none := by
 rw [ltI_eq, decide_eq_true_iff] at h
 cases th with
 | negSucc t => rfl
 | ofNat t =>
  have h : g.threads.length < t := Int.ofNat_lt.1 h
  cases t with
  | zero => omega
  | succ t =>
   cases ix with
   | negSucc n => rfl
   | ofNat n =>
    show (g.threads[t]?).bind _ = none
    rw [List.getElem?_eq_none (by omega)]; rfl
theorem nat_of {n : Int} (h : ltI n 0 = false) : ∃ m : Nat, n = .ofNat m := by
 rw [ltI_eq, decide_eq_false_iff_not] at h
 cases n with
 | ofNat m => exact ⟨m, rfl⟩
 | negSucc m => exact absurd (Int.negSucc_lt_zero m) h
theorem succ_of {n : Nat} (h : eqI (.ofNat n) 0 = false) : ∃ m : Nat, n = m + 1 := by
 cases n with
 | zero => cases h
 | succ m => exact ⟨m, rfl⟩
theorem wr_pred {t : Nat} (h : t ≤ 9223372036854775807) : wr .i64 (Int.sub (.ofNat (t + 1)) 1) = .ofNat t := by
 have e : Int.sub (.ofNat (t + 1)) 1 = .ofNat t := by
  show ((t + 1 : Nat) : Int) - 1 = (t : Int)
  omega
 rw [e]
 show (bif Nat.ble t 9223372036854775807 then _ else _) = _
 rw [show Nat.ble t 9223372036854775807 = true by rw [Nat.ble_eq]; exact h]
 rfl
theorem le_of_no {a b : Nat} (h : ltI (.ofNat a) (.ofNat b) = false) : b ≤ a := lt_no h
theorem lt_of_ge {a b : Nat} (h : (bif ltI (.ofNat a) (.ofNat b) then false else true) = false) : a < b := lt_yes (notB_f h)
theorem ge_of_ge {a b : Nat} (h : (bif ltI (.ofNat a) (.ofNat b) then false else true) = true) : b ≤ a := lt_no (notB_t h)
section
variable {P : Program} {G : Cx} {n : Nat} {t : PT AV} {σ : AHeap} {Q : Ex → PT AV → AHeap → Prop}
theorem results_cell {fn : Func} {j k ty b m e : Nat} {ro : Bool} {cells : List AV} {v : AV} (hr : fn.results.toList = [.cell j ty, .tmp k]) (h1 : t.get j = some (.ptr b 0)) (hm : σ.m.get b = some (.row cells e ro)) (ha : aggOf P ty = some (some m)) (hn : cells.length = m) (h2 : t.get k = some v) : resultsA P fn t σ = some (.tuple [.agg cells, v]) := by
 unfold resultsA
 rw [hr]
 have e1 : resultA P t σ (.cell j ty) = some (AV.agg cells) := by
  show (match t.get (posOf j) with
   | some (.ptr b off) => match σ.m.get b with
    | some (.row cells _ _) => match aggOf P ty with
     | some (some n) => bif Nat.ble (off + n) (lenN cells) then some (AV.agg (takeN (dropN cells off) n)) else none
     | some none => nth cells off
     | none => none
    | _ => none
   | _ => none) = _
  rw [show t.get (posOf j) = some (.ptr b 0) from h1]
  dsimp only
  rw [hm]
  dsimp only
  rw [ha]
  dsimp only
  rw [lenN_eq, hn, Nat.zero_add, show Nat.ble m m = true by rw [Nat.ble_eq]; exact Nat.le_refl _, takeN_eq, dropN_eq, List.drop_zero, ← hn, List.take_length]
  rfl
 have e2 : resultA P t σ (.tmp k) = some v := h2
 have : allSome (resultA P t σ) [.cell j ty, .tmp k] = some [AV.agg cells, v] := by
  unfold allSome
  simp only [e1, e2]
 rw [this]
theorem rc_ {fn : Func} {R : AV → AHeap → Prop} {j k ty b m e : Nat} {ro : Bool} {cells : List AV} {v : AV} (hr : fn.results.toList = [.cell j ty, .tmp k]) (h1 : t.get j = some (.ptr b 0)) (hm : σ.m.get b = some (.row cells e ro)) (ha : aggOf P ty = some (some m)) (hn : cells.length = m) (h2 : t.get k = some v) (hR : R (.tuple [.agg cells, v]) σ) : endQ P fn R .ret t σ :=
 ⟨.inr rfl, _, results_cell hr h1 hm ha hn h2, hR⟩
end
end Go.Ev
namespace Go.Ev
variable [Env]
noncomputable def rightFromB (g : XG) (id from_ : XId) : Bool :=
 bif !readsB (evD (evAt g id)) then sameX [from_.thread, from_.index] [0, 0] else
 bif (evAt g from_).isSome then
  bif (bif sameX [from_.thread, from_.index] [id.thread, id.index] then false else true) then
   bif writesB (evD (evAt g from_)) then
    bif eqI (evD (evAt g from_)).loc (evD (evAt g id)).loc then eqI (evD (evAt g from_)).write (evD (evAt g id)).read else false
   else false
  else false
 else false
def tooLongB (g : XG) : Bool := bif ltI 4 (.ofNat g.threads.length) then true else bif ltI 6 (.ofNat g.init.length) then true else g.threads.any fun l => ltI 14 (.ofNat l.length)
end Go.Ev

/- Data that are read: their shape; what the evaluator's contracts are worth in whatever world. -/
namespace Go.Ev
section
variable [Env] {H : Type}
/-- Has a datum the shape of a type? (Of types other than truths, integers, texts, slices, structs nothing is said.) -/
def Fit (P : Program) : Nat → TypeId → DataW H → Prop
  | 0, _, _ => False
  | fuel + 1, t, d =>
    match P.underlying t with
    | some .bool => ∃ b, d = .lit (.bool b)
    | some (.int k) => ∃ n, d = .lit (.int k n)
    | some .string => ∃ s, d = .lit (.string s)
    | some (.slice e) => d = .nil ∨ ∃ elems spare, d = .slice elems spare ∧ ∀ x ∈ elems, Fit P fuel e x
    | some (.struct fs) => ∃ parts, d = .agg parts ∧ parts.length = fs.size ∧ ∀ (i : Nat) (f : Field) (x : DataW H), fs[i]? = some f → parts[i]? = some x → Fit P fuel f.type x
    | _ => True

theorem mapM_all {α β : Type} {f : α → Option β} : ∀ {l : List α} {ys : List β}, l.mapM f = some ys → ys.length = l.length ∧ ∀ (i : Nat) (x : α), l[i]? = some x → ∃ y, ys[i]? = some y ∧ f x = some y
  | [], ys, h => by simp at h; subst h; exact ⟨rfl, fun i x hx => by simp at hx⟩
  | a :: l, ys, h => by
    simp only [List.mapM_cons, Option.bind_eq_bind, Option.bind_eq_some_iff, Option.pure_def, Option.some.injEq] at h
    obtain ⟨y, h1, r, h2, rfl⟩ := h
    obtain ⟨k1, k2⟩ := mapM_all h2
    refine ⟨by simp [k1], fun i x hx => ?_⟩
    cases i with
    | zero => simp at hx; subst hx; exact ⟨y, rfl, h1⟩
    | succ i => simpa using k2 i x (by simpa using hx)

variable {enc : TypeId × Value → H} {P : Program} {w : World}
theorem fit_of_trod : ∀ (fuel : Nat) (t : TypeId) (cs : List Value) (d : DataW H) (p : List MemPlace), DataW.trod enc P w 0 (fun _ => true) true fuel t cs = some (d, p) → Fit P fuel t d
  | 0, _, _, _, _, h => by simp [DataW.trod] at h
  | fuel + 1, t, cs, d, p, h => by
    have ih := fit_of_trod fuel
    unfold Fit
    cases hu : P.underlying t with
    | none => trivial
    | some u =>
      unfold DataW.trod at h
      rw [hu] at h
      cases u with
      | bool =>
        split at h <;> first | (rename_i he; cases he; done) | skip
        all_goals first
          | (cases h; exact ⟨_, rfl⟩)
          | cases h
      | int k =>
        split at h <;> first | (rename_i he; cases he; done) | skip
        all_goals first
          | (rename_i k1 k2 n he
             cases he
             split at h
             · cases h; exact ⟨_, rfl⟩
             · cases h)
          | cases h
      | string =>
        split at h <;> first | (rename_i he; cases he; done) | skip
        all_goals first
          | (split at h
             · cases h; exact ⟨_, rfl⟩
             · cases h)
          | cases h
      | struct fs =>
        dsimp only at h ⊢
        split at h
        · obtain ⟨xs, hxs, hx⟩ := Option.map_eq_some_iff.1 h
          have hd : d = .agg (xs.map (·.1)) := by have := congrArg Prod.fst hx; simpa using this.symm
          obtain ⟨k1, k2⟩ := mapM_all hxs
          refine ⟨_, hd, by simpa using k1, fun i f x hf hxx => ?_⟩
          obtain ⟨y, hy, hfy⟩ := k2 i f (by rw [Array.getElem?_toList]; exact hf)
          rw [List.getElem?_map, hy] at hxx
          cases hxx
          exact ih _ _ _ y.2 hfy
        · cases h
      | slice e =>
        split at h <;> first | (rename_i he; cases he; done) | skip
        · cases h; exact .inl rfl
        · rename_i e' a len cap he
          cases he
          dsimp only at h
          rw [if_pos rfl] at h
          split at h
          · obtain ⟨elems, he1, hr⟩ := Option.bind_eq_some_iff.1 h
            obtain ⟨rest, _, hd⟩ := Option.map_eq_some_iff.1 hr
            have hd : d = .slice (elems.map (·.1)) (rest.map (·.1)) := by have := congrArg Prod.fst hd; simpa using this.symm
            refine .inr ⟨_, _, hd, fun x hx => ?_⟩
            obtain ⟨y, hy, rfl⟩ := List.mem_map.1 hx
            obtain ⟨i, hi⟩ := List.getElem?_of_mem hy
            obtain ⟨k1, k2⟩ := mapM_get he1
            obtain ⟨j, _, hj⟩ := k2 i y hi
            obtain ⟨c, _, hc⟩ := Option.bind_eq_some_iff.1 hj
            exact ih _ _ _ y.2 hc
          · cases h
        all_goals cases h
      | _ => trivial
end
section
variable [Env] {P : Program} {G : Cx}
/-- What lies in a heap that is read alone. -/
def KOf (σ : AHeap) : KP := fun b o => b < σ.next ∧ σ.m.get b = some o
theorem St.of (σ : AHeap) : St σ (KOf σ) [] := ⟨fun b o h => ⟨h.1, h.2, fun e he => by cases he⟩, fun e he => (by cases he), List.Pairwise.nil⟩
theorem Keeps.of_ro {w w' : World} {ρ ρ' : Ren} {σ σ' : AHeap} (h : Stp ρ σ w ρ' σ' w') (hr : AllRo σ) : Keeps w w' :=
  ⟨h.os, h.out, h.tape, h.size, fun r hr' => h.frame r hr' fun ⟨b, o, l, h1, h2, _⟩ => by rw [hr b o h1] at h2; cases h2⟩
/-- A contract's worth. -/
theorem calls_of_ev (hm : P.follows .mixedOrders = true) (hC : CxOK P G) {ρ : Ren} {σ : AHeap} {w : World} {f : Nat} {args : List AV} {xs : Array Value} {R : AV → AHeap → Prop} (hi : Inv ρ σ w) (hg : GR ρ G) (hr : AllRo σ) (hx : VRs ρ args xs.toList) (h : EvCall P G f args σ R) :
    Calls P f xs w fun e w' => ∃ v x σ' ρ', e = .returned x ∧ Keeps w w' ∧ VR ρ' v x ∧ R v σ' := by
  obtain ⟨K, v, σ', h1, h2⟩ := h
  exact evalCall_sound (fuel := K) hm hC (h1 K (Nat.le_refl _)) hi hg hx fun ρ' w' x _ st hv => ⟨v, x, σ', ρ', rfl, Keeps.of_ro st hr, hv, h2⟩
theorem AllRo.leaf : AllRo σ0 := fun b o h => by
  have : (PT.leaf : PT AObj).get b = some o := h
  rw [PT.get_leaf] at this; cases this
theorem HasD.fresh {ρ : Ren} {σ : AHeap} {w : World} (hi : Inv ρ σ w) {b : Nat} {o : AObj} (h : σ.m.get b = some o) : b < σ.next := by
  rcases Nat.lt_or_ge b σ.next with h' | h'
  · exact h'
  · rw [(hi.fresh b h').2] at h; cases h
end
end Go.Ev

/- Data that are read, as plain values. -/
namespace Go.Ev
section
variable {H : Type}
def litI : DataW H → Int
 | .lit (.int _ n) => n
 | _ => 0
def litB : DataW H → Bool
 | .lit (.bool b) => b
 | _ => false
def litS : DataW H → List Nat
 | .lit (.string s) => s.map UInt8.toNat
 | _ => []
def elemsD : DataW H → List (DataW H)
 | .slice l _ => l
 | _ => []
def partD (d : DataW H) (i : Nat) : DataW H :=
 match d with
 | .agg ps => ps.getD i .nil
 | _ => .nil
def toXE : Nat → DataW H → XE
 | 0, _ => .mk 0 0 [] []
 | 1, _ => .mk 0 0 [] []
 | k + 2, d => .mk (litI (partD d 0)) (litI (partD d 1)) (litS (partD d 2)) ((elemsD (partD d 3)).map (toXE k))
def toXI (k : Nat) (d : DataW H) : XI := ⟨litI (partD d 0), litI (partD d 1), litI (partD d 2), litI (partD d 3), litI (partD d 4), (elemsD (partD d 5)).map (toXE k)⟩
def toXC (k : Nat) (d : DataW H) : XC := ⟨litI (partD d 0), (elemsD (partD d 1)).map (toXI k)⟩
end
section
variable [Env] {H : Type} {P : Program} {σ : AHeap}
/-- Integers of 64 bits. -/
def I64 (n : Int) : Prop := -9223372036854775808 ≤ n ∧ n ≤ 9223372036854775807
theorem int_of {fuel : Nat} {t : TypeId} {d : DataW H} {vs : List AV} {k : IntKind} (hu : P.underlying t = some (.int k)) (hf : Fit P fuel t d) (hd : HasD P σ fuel t d vs) : vs = [.int k (litI d)] ∧ (Lit.int k (litI d)).wf = true := by
 cases fuel with
 | zero => exact hf.elim
 | succ fuel =>
  unfold Fit at hf
  rw [hu] at hf
  obtain ⟨n, rfl⟩ := hf
  unfold HasD at hd
  rw [hu] at hd
  obtain ⟨_, h2, rfl⟩ := hd
  exact ⟨rfl, h2⟩
theorem bool_of {fuel : Nat} {t : TypeId} {d : DataW H} {vs : List AV} (hu : P.underlying t = some .bool) (hf : Fit P fuel t d) (hd : HasD P σ fuel t d vs) : vs = [.bool (litB d)] := by
 cases fuel with
 | zero => exact hf.elim
 | succ fuel =>
  unfold Fit at hf
  rw [hu] at hf
  obtain ⟨n, rfl⟩ := hf
  unfold HasD at hd
  rw [hu] at hd
  exact hd
theorem str_of {fuel : Nat} {t : TypeId} {d : DataW H} {vs : List AV} (hu : P.underlying t = some .string) (hf : Fit P fuel t d) (hd : HasD P σ fuel t d vs) : vs = [.str (litS d)] := by
 cases fuel with
 | zero => exact hf.elim
 | succ fuel =>
  unfold Fit at hf
  rw [hu] at hf
  obtain ⟨n, rfl⟩ := hf
  unfold HasD at hd
  rw [hu] at hd
  exact hd.2
/-- A slice that is read. -/
theorem slice_of {α : Type} {fuel : Nat} {t e : TypeId} {m : Nat} {d : DataW H} {vs : List AV} (F : DataW H → α) (R : α → List AV → Prop) (hu : P.underlying t = some (.slice e)) (hm : P.cellsOf e = m) (h1 : 1 ≤ m) (hn : ∀ (b : Nat) (o : AObj), σ.m.get b = some o → b < σ.next) (hf : Fit P (fuel + 1) t d) (hd : HasD P σ (fuel + 1) t d vs)
  (hR : ∀ x vs, Fit P fuel e x → HasD P σ fuel e x vs → R (F x) vs) : ∃ v, vs = [v] ∧ HasS (KOf σ) m R ((elemsD d).map F) v := by
 unfold Fit at hf
 rw [hu] at hf
 dsimp only at hf
 unfold HasD at hd
 rw [hu] at hd
 rcases hf with rfl | ⟨elems, spare, rfl, hall⟩
 ·dsimp only at hd
  exact ⟨_, hd, .inl ⟨rfl, rfl⟩⟩
 ·dsimp only at hd
  rw [hm] at hd
  obtain ⟨b, c, cells, e', rfl, k2, k3, k4, k5, k6⟩ := hd h1
  refine ⟨_, rfl, .inr ⟨b, 0, c, cells, e', true, by rw [show (elemsD (DataW.slice elems spare)).map F = elems.map F from rfl, List.length_map], ?_, ⟨hn b _ k3, k3⟩, ?_, ?_, fun i x hx => ?_⟩⟩
  ·rw [show (elemsD (DataW.slice elems spare)).map F = elems.map F from rfl, List.length_map]
   rcases k4 with rfl | rfl
   ·exact .inr ⟨_, rfl, Nat.le_add_right _ _⟩
   ·exact .inl rfl
  ·rw [show (elemsD (DataW.slice elems spare)).map F = elems.map F from rfl, List.length_map, k5, Nat.zero_add]; exact Nat.le_refl _
  ·rw [show (elemsD (DataW.slice elems spare)).map F = elems.map F from rfl, List.length_map]; exact k2
  ·rw [show (elemsD (DataW.slice elems spare)).map F = elems.map F from rfl, List.getElem?_map, Option.map_eq_some_iff] at hx
   obtain ⟨y, hy, rfl⟩ := hx
   rw [Nat.zero_add]
   exact hR y _ (hall y (List.mem_of_getElem? hy)) (k6 i y hy)
/-- A struct that is read: its parts. -/
theorem struct_of {fuel : Nat} {t : TypeId} {fs : Array Field} {d : DataW H} {vs : List AV} {m : Nat} (hu : P.underlying t = some (.struct fs)) (hc : P.cellsOf t = m) (ht : tiles P fs.toList 0 = some m) (hf : Fit P (fuel + 1) t d) (hd : HasD P σ (fuel + 1) t d vs) :
  vs.length = m ∧ ∀ (i : Nat) (f : Field), fs[i]? = some f → Fit P fuel f.type (partD d i) ∧ HasD P σ fuel f.type (partD d i) ((vs.drop f.offset).take (P.cellsOf f.type)) := by
 unfold Fit at hf
 rw [hu] at hf
 dsimp only at hf
 obtain ⟨parts, rfl, hn, hall⟩ := hf
 unfold HasD at hd
 rw [hu] at hd
 dsimp only at hd
 rw [hc] at hd
 obtain ⟨_, h2, h3⟩ := hd ht
 refine ⟨h2, fun i f hi => ?_⟩
 have hlt : i < parts.length := by rw [hn]; exact (Array.getElem?_eq_some_iff.1 hi).1
 have hp : parts[i]? = some parts[i] := List.getElem?_eq_getElem hlt
 have : partD (.agg parts) i = parts[i] := by
  show parts.getD i .nil = _
  rw [List.getD_eq_getElem?_getD, hp]; rfl
 rw [this]
 exact ⟨hall i f _ hi hp, h3 i f _ hi hp⟩
theorem HasS.monoR {α : Type} {K : KP} {m : Nat} {R R' : α → List AV → Prop} {l : List α} {v : AV} (h : HasS K m R l v) (hR : ∀ x vs, R x vs → R' x vs) : HasS K m R' l v := h.mono (KP.le_refl K) hR
theorem HasE.up {K : KP} : ∀ {k : Nat} {x : XE} {vs : List AV}, HasE K k x vs → HasE K (k + 1) x vs
 | 0, x, _, h => by cases x; exact h.elim
 | k + 1, .mk op num name kids, vs, h => by
  obtain ⟨v, rfl, hk⟩ := h
  exact ⟨v, rfl, hk.monoR fun x vs h => HasE.up h⟩
end
end Go.Ev

/- Arguments that lie as they lay read as they read. -/
namespace Go.Ev
theorem carry_old {H : Type} {enc : TypeId × Value → H} {P : Program} {w w' : World} {sp : Nat → Bool} (hs : ∀ r : Nat, r < w.heap.size → w'.heap[r]? = w.heap[r]?) {fuel : Nat} {t : TypeId} {cs : List Value} {x : DataW H × List MemPlace}
  (h : DataW.trod enc P w 0 sp true fuel t cs = some x) : DataW.trod enc P w' 0 sp true fuel t cs = some x := by
 refine DataW.trod_carry fuel t cs x h fun p hp => ?_
 have hlt := DataW.trod_lt fuel t cs x h p hp
 cases p with
 | cell b off =>
  show w'.cell? ⟨b, off, none⟩ = w.cell? ⟨b, off, none⟩
  unfold World.cell?
  rw [hs b hlt]
 | map b => exact hs b hlt
theorem carryAll_old {H : Type} {enc : TypeId × Value → H} {P : Program} {w w' : World} {sp : Nat → Bool} (hs : ∀ r : Nat, r < w.heap.size → w'.heap[r]? = w.heap[r]?) : ∀ {ts : List TypeId} {vs : List Value} {ds : List (DataW H)} {ps : List MemPlace},
  DataW.TrodAll enc P w 0 sp true ts vs ds ps → DataW.TrodAll enc P w' 0 sp true ts vs ds ps
 | [], [], [], _, h => h
 | _ :: _, _ :: _, _ :: _, _, ⟨p, q, ⟨n, h1⟩, h2, e⟩ => ⟨p, q, ⟨n, carry_old hs h1⟩, carryAll_old hs h2, e⟩
/-- The arguments read again. -/
theorem reads_again {H : Type} {enc : TypeId × Value → H} {P : Program} (hl : laidOutB P = true) (hm : mapsRowed P = true) (hz : ((List.range P.types.size).all fun t => match P.underlying t with | some (.slice e) => decide (0 < P.cellsOf e) | _ => true) = true) {w w' : World} (hk : Keeps w w') {ts : List TypeId} {vs : List Value} {ds : List (DataW H)} {ps : List MemPlace}
  (hT : (ts.all fun t => decide (t < P.types.size)) = true) (h : DataW.TrodAll enc P w 0 (fun _ => true) true ts vs ds ps) {sp : Nat → Bool} (hsp : ∀ p ∈ ps, sp p.block = true) : DataW.TrodAll enc P w' 0 sp true ts vs ds ps :=
 carryAll_old hk.same (h.respare (kids_rows hl hm) (slices_full_of P hz) (fun t ht => of_decide_eq_true (List.all_eq_true.1 hT t ht)) hsp)
end Go.Ev

