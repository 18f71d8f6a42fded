/- Part of the proof: an evaluator of the model's code, rules for walks on it, walks. Without conditions. -/
import Derived.Test.YtgppgbbkngfanaaGreatDoorEc
import Derived.Test.YtgppgbbkngfanaaGreatDoorEb
import Derived.ReadAgain
import Derived.ProofKit
import Derived.Test.YtgppgbbkngfanaaGreatDoorProg
import Derived.KernelRfl
set_option linter.unusedSectionVars false
set_option linter.unusedVariables false
set_option linter.unusedSimpArgs false
noncomputable section
namespace Go.Ev
variable [Env]
def lastG (g : XG) (loc : Int) : Int := match (writesG g loc).getLast? with | none => 0 | some id => (evD (evAt g id)).write
def fitsL (k : Nat) : List XC → List (List XEv) → Option (List Int)
  | [], _ => some []
  | _ :: _, [] => none
  | c :: l, r :: g => bif eqI (nextM k c r).2 0 then (fitsL k l g).map fun e => (nextM k c r).1.fin :: e else none
def fitsG (k : Nat) (l : List XC) (g : XG) : Option (List Int) :=
  bif notB (eqI (checkI g) 0) then none else bif notB (eqI (.ofNat l.length) (.ofNat g.threads.length)) then none else fitsL k l g.threads
def memOK (g : XG) : List Int → Nat → Bool
  | [], _ => true
  | v :: r, i => bif notB (eqI v (lastG g (.ofNat i))) then false else memOK g r (i + 1)
def endsM (k : Nat) (l : List XC) (m : List Int) (g : XG) : Option (List Int) :=
  match fitsG k l g with
  | none => none
  | some e => bif notB (eqI (.ofNat m.length) (.ofNat g.init.length)) then none else bif memOK g m 0 then some e else none
def isM (k : Nat) (l : List XC) (m : List Int) (g : XG) : Bool := (endsM k l m g).isSome
structure XM where
  mem : List Int
  g : XG
structure Plan where
  did : XEv
  fr : XId
  place : Int
  mem : List Int
def locN (n : XNext) : Int := bif notB (eqI n.ask.kind 0) then n.ask.loc else n.event.loc
def planN (n : XNext) (m : List Int) (g : XG) : Plan :=
  bif eqI n.event.kind 4 then ⟨n.event, ⟨0, 0⟩, 0, m⟩ else
  let all := writesG g (locN n)
  let did := bif notB (eqI n.ask.kind 0) then answerI n.ask ((m[(locN n).toNat]?).getD 0) else n.event
  let fr := bif notB (eqI n.ask.kind 0) then (all.getLast?).getD ⟨0, 0⟩ else ⟨0, 0⟩
  bif notB (eqI did.kind 1) then ⟨did, fr, .ofNat all.length, m.set (locN n).toNat did.write⟩ else ⟨did, fr, 0, m⟩
def badLoc (n : XNext) (g : XG) : Bool := bif notB (eqI n.event.kind 4) then (bif ltI (locN n) 0 then true else notB (ltI (locN n) (.ofNat g.init.length))) else false
def errM (k : Nat) (c : XC) (row : List XEv) (g : XG) : Int :=
  bif notB (eqI (nextM k c row).2 0) then (nextM k c row).2 else
  bif notB (eqI (nextM k c row).1.fin 0) then 10 else
  bif notB (ltI (.ofNat row.length) 14) then 3 else
  bif badLoc (nextM k c row).1 g then 2 else 0
def doM (p : Plan) (th : Int) (g : XG) : Option XM × Int :=
  match addG g th p.did p.fr p.place with
  | (some g', e) => (some ⟨p.mem, g'⟩, e)
  | (none, e) => (none, e)
def stepM (k : Nat) (l : List XC) (r : XM) (t : Nat) : Option XM × Int :=
  match l[t]?, r.g.threads[t]? with
  | some c, some row => bif notB (eqI (errM k c row r.g) 0) then (none, errM k c row r.g) else doM (planN (nextM k c row).1 r.mem r.g) (.ofNat (t + 1)) r.g
  | _, _ => (none, 2)
structure MInv (k : Nat) (l : List XC) (r : XM) : Prop where
  chk : checkI r.g = 0
  len : r.g.threads.length = l.length
  mem : r.mem.length = r.g.init.length
  last : ∀ i : Nat, i < r.g.init.length → r.mem[i]? = some (lastG r.g (.ofNat i))
  fits : ∀ (t : Nat) (c : XC) (row : List XEv), l[t]? = some c → r.g.threads[t]? = some row → FitsX k c row
theorem fitsL_some {k : Nat} : ∀ {l : List XC} {g : List (List XEv)}, l.length = g.length → (∀ (t : Nat) (c : XC) (row : List XEv), l[t]? = some c → g[t]? = some row → FitsX k c row) → ∃ e, fitsL k l g = some e ∧ e.length = l.length
  | [], _, _, _ => ⟨[], rfl, rfl⟩
  | _ :: _, [], h, _ => by simp at h
  | c :: l, r :: g, h, hf => by
    obtain ⟨e, he, hl⟩ := fitsL_some (k := k) (l := l) (g := g) (by simpa using h) (fun t c row h1 h2 => hf (t + 1) c row (by simpa using h1) (by simpa using h2))
    have := nextM_fits.2 (hf 0 c r rfl rfl)
    refine ⟨(nextM k c r).1.fin :: e, ?_, ?_⟩
    · unfold fitsL
      rw [this, he]; rfl
    · simp [hl]
theorem memOK_of {g : XG} : ∀ {m : List Int} {i : Nat}, (∀ j v, m[j]? = some v → v = lastG g (.ofNat (i + j))) → memOK g m i = true
  | [], _, _ => rfl
  | v :: r, i, h => by
    have h0 := h 0 v rfl
    rw [Nat.add_zero] at h0
    unfold memOK
    rw [h0, eqI_self]
    exact memOK_of fun j v hv => by have := h (j + 1) v (by simpa using hv); rwa [show i + 1 + j = i + (j + 1) by omega]
theorem MInv.is {k : Nat} {l : List XC} {r : XM} (h : MInv k l r) : isM k l r.mem r.g = true := by
  obtain ⟨e, he, _⟩ := fitsL_some (k := k) (l := l) (g := r.g.threads) h.len.symm h.fits
  unfold isM endsM fitsG
  rw [h.chk, h.len, eqI_self, he]
  simp only [show notB (eqI 0 0) = false from rfl, show notB true = false from rfl, cond_false]
  rw [h.mem, memOK_of fun j v hv => ?_]
  · simp only [eqI_self, notB, cond_true, cond_false]; rfl
  · have hj := (List.getElem?_eq_some_iff.1 hv).1
    have := h.last j (by rw [← h.mem]; exact hj)
    simp_all
theorem order_ev {g : XG} (h : Right g) {ln : Nat} {r : List XId} {id : XId} (hr : g.order[ln]? = some r) (hm : id ∈ r) : ∃ w, evAt g id = some w := by
  have h1 := h.perm.mem_iff.2 (ordL_mem (loc := 0) hr hm)
  obtain ⟨s, i, l, e, k1, k2, _, k4, _⟩ := wrAll_iff.1 h1
  have e1 : id = ⟨.ofNat (s + 1), .ofNat i⟩ := ints_inj (by rw [k4, Nat.zero_add]; rfl)
  subst e1
  exact ⟨e, by rw [evAt_row, k1]; exact k2⟩
theorem init_ev {g : XG} {ln : Nat} (h : ln < g.init.length) : ∃ w, evAt g ⟨0, .ofNat ln⟩ = some w := by
  refine ⟨⟨2, ln, 1, 0, g.init[ln]⟩, ?_⟩
  show (g.init[ln]?).map _ = _
  simp_all
theorem lastG_at {g : XG} (hc : checkI g = 0) {ln : Nat} {r : List XId} (hr : g.order[ln]? = some r) : lastG g (.ofNat ln) = (evD (evAt g ((r.getLast?).getD ⟨0, .ofNat ln⟩))).write := by
  unfold lastG
  rw [writesG_at (by rw [hc]; rfl) hr]
  grind
theorem order_some {g : XG} (hc : checkI g = 0) {ln : Nat} (h : ln < g.init.length) : ∃ r, g.order[ln]? = some r := at_of (by rw [(right_iff.1 hc).order]; exact h)
theorem last_same {g g' : XG} (hc : checkI g = 0) (hc' : checkI g' = 0) (hold : ∀ id w, evAt g id = some w → evAt g' id = some w) {ln : Nat} (h : ln < g.init.length) (ho : g'.order[ln]? = g.order[ln]?) : lastG g' (.ofNat ln) = lastG g (.ofNat ln) := by
  obtain ⟨r, hr⟩ := order_some hc h
  rw [lastG_at hc hr, lastG_at hc' (by rw [ho]; exact hr)]
  have : ∃ w, evAt g ((r.getLast?).getD ⟨0, .ofNat ln⟩) = some w := by
    cases hl : r.getLast? with
    | none => exact init_ev h
    | some x => exact order_ev (right_iff.1 hc) hr (List.mem_of_getLast? hl)
  grind
theorem add_init {g g' : XG} {th pl : Int} {e : XEv} {fr : XId} (h : addG g th e fr pl = (some g', 0)) : g'.init = g.init := by
  obtain ⟨_, tm, row, frow, _, _, _, _, _, rfl, _⟩ := addG_inv h
  rfl
theorem add_row {g g' : XG} {tm : Nat} {pl : Int} {e : XEv} {fr : XId} (h : addG g (.ofNat (tm + 1)) e fr pl = (some g', 0)) : ∃ row, g.threads[tm]? = some row ∧ g'.threads = g.threads.set tm (row ++ [e]) := by
  obtain ⟨_, t2, row, frow, ht, h1, _, _, _, rfl, _⟩ := addG_inv h
  grind [grownG_eq]
theorem add_order {g g' : XG} {th pl : Int} {e : XEv} {fr : XId} (h : addG g th e fr pl = (some g', 0)) {ln : Nat} (hl : writesB e = true → e.loc ≠ .ofNat ln) : g'.order[ln]? = g.order[ln]? := by
  obtain ⟨_, tm, row, frow, _, _, _, _, hp, rfl, _⟩ := addG_inv h
  grind [grownG_eq, ordW_at, badPlace_loc]
theorem add_orderW {g g' : XG} {tm ln : Nat} {e : XEv} {fr : XId} {r : List XId} (hr : g.order[ln]? = some r) (h : addG g (.ofNat (tm + 1)) e fr (.ofNat (r.length + 1)) = (some g', 0)) (hw : writesB e = true) (hl : e.loc = .ofNat ln) : ∃ row, g.threads[tm]? = some row ∧ g'.order[ln]? = some (r ++ [⟨.ofNat (tm + 1), .ofNat row.length⟩]) := by
  obtain ⟨_, t2, row, frow, ht, h1, _, _, _, rfl, _⟩ := addG_inv h
  have : tm = t2 := by grind
  subst this
  refine ⟨row, h1, ?_⟩
  rw [grownG_eq]
  show (ordW g.order e _ _)[ln]? = _
  unfold ordW
  rw [hw, hl]
  have hlt := (List.getElem?_eq_some_iff.1 hr).1
  simp_all
theorem planN_fence {n : XNext} {m : List Int} {g : XG} (h : eqI n.event.kind 4 = true) : planN n m g = ⟨n.event, ⟨0, 0⟩, 0, m⟩ := by unfold planN; rw [h]; rfl
theorem answerI_loc {a : XAsk} {v : Int} (h : a.kind = 2 ∨ a.kind = 4 ∨ a.kind = 5 ∨ a.kind = 6) : (answerI a v).loc = a.loc ∧ (readsB (answerI a v) = true) := by
  refine ⟨?_, (answerI_reads h).1⟩
  unfold answerI
  rcases h with h | h | h | h <;> rw [h]
  · rfl
  · exact cond_ind (P := fun e : XEv => e.loc = a.loc) (eqI v a.a) rfl rfl
  · rfl
  · rfl
structure StepIs (k : Nat) (l : List XC) (r : XM) (t : Nat) (c : XC) (row : List XEv) (p : Plan) (r' : XM) : Prop where
  code : l[t]? = some c
  rowAt : r.g.threads[t]? = some row
  err : errM k c row r.g = 0
  plan : p = planN (nextM k c row).1 r.mem r.g
  add : addG r.g (.ofNat (t + 1)) p.did p.fr p.place = (some r'.g, 0)
  mem : r'.mem = p.mem
theorem stepM_is {k : Nat} {l : List XC} {r r' : XM} {t : Nat} (h : stepM k l r t = (some r', 0)) : ∃ c row p, StepIs k l r t c row p r' := by
  unfold stepM at h
  cases h1 : l[t]? with
  | none => rw [h1] at h; cases h
  | some c =>
  cases h2 : r.g.threads[t]? with
  | none => simp_all
  | some row =>
  rw [h1, h2] at h
  dsimp only at h
  cases h3 : eqI (errM k c row r.g) 0 with
  | false => rw [h3] at h; cases h
  | true =>
    rw [h3] at h
    have h : doM (planN (nextM k c row).1 r.mem r.g) (.ofNat (t + 1)) r.g = (some r', 0) := h
    unfold doM at h
    cases h4 : addG r.g (.ofNat (t + 1)) (planN (nextM k c row).1 r.mem r.g).did (planN (nextM k c row).1 r.mem r.g).fr (planN (nextM k c row).1 r.mem r.g).place with
    | mk o e =>
      rw [h4] at h
      cases o with
      | none => cases h
      | some g' =>
        simp only [Prod.mk.injEq, Option.some.injEq] at h
        obtain ⟨rfl, rfl⟩ := h
        exact ⟨c, row, _, h1, h2, eq0 h3, rfl, h4, rfl⟩
theorem StepIs.step {k : Nat} {l : List XC} {r r' : XM} {t : Nat} {c : XC} {row : List XEv} {p : Plan} (h : StepIs k l r t c row p r') : stepM k l r t = (some r', 0) := by
  unfold stepM
  rw [h.code, h.rowAt]
  dsimp only
  rw [h.err, ← h.plan]
  show doM p _ _ = _
  unfold doM
  rw [h.add]
  dsimp only
  obtain ⟨m, g⟩ := r'
  have := h.mem
  simp_all
theorem errM_zero {k : Nat} {c : XC} {row : List XEv} {g : XG} (h : errM k c row g = 0) : (nextM k c row).2 = 0 ∧ (nextM k c row).1.fin = 0 ∧ row.length < 14 ∧ badLoc (nextM k c row).1 g = false := by
  unfold errM at h
  cases h1 : eqI (nextM k c row).2 0 with
  | false =>
    rw [h1] at h
    have h : (nextM k c row).2 = 0 := h
    rw [h] at h1; cases h1
  | true =>
  rw [h1] at h
  cases h2 : eqI (nextM k c row).1.fin 0 with
  | false => rw [h2] at h; cases h
  | true =>
  rw [h2] at h
  cases h3 : ltI (.ofNat row.length) 14 with
  | false => rw [h3] at h; cases h
  | true =>
  rw [h3] at h
  cases h4 : badLoc (nextM k c row).1 g with
  | true => rw [h4] at h; cases h
  | false => exact ⟨eq0 h1, eq0 h2, lt_yes (b := 14) h3, rfl⟩
theorem badLoc_at {n : XNext} {g : XG} (h : badLoc n g = false) (hk : eqI n.event.kind 4 = false) : ∃ ln : Nat, locN n = .ofNat ln ∧ ln < g.init.length := by
  unfold badLoc at h
  rw [hk] at h
  have h : (bif ltI (locN n) 0 then true else notB (ltI (locN n) (.ofNat g.init.length))) = false := h
  cases h1 : ltI (locN n) 0 with
  | true => rw [h1] at h; cases h
  | false =>
    rw [h1] at h
    obtain ⟨ln, hl⟩ := nat_of h1
    rw [hl] at h ⊢
    exact ⟨ln, rfl, lt_yes (notB_f h)⟩
theorem writes_of_add {g g' : XG} {th : Int} {e : XEv} {fr : XId} {ln : Nat} (h : addG g th e fr (.ofNat (writesG g (.ofNat ln)).length) = (some g', 0)) (hl : ln < g.init.length) : writesB e = true := by
  obtain ⟨hc, _, _, _, _, _, _, _, hb, _, _⟩ := addG_inv h
  unfold badPlace at hb
  obtain ⟨o, ho⟩ := order_some hc hl
  cases hw : writesB e with
  | true => rfl
  | false => rw [hw, writesG_at (by rw [hc]; rfl) ho] at hb; cases hb
structure PlanOK (k : Nat) (c : XC) (row : List XEv) (r : XM) (p : Plan) : Prop where
  fits : FitsX k c (row ++ [p.did])
  look : eqI (nextM k c row).1.event.kind 4 = false → ∃ ln : Nat, ln < r.g.init.length ∧ locN (nextM k c row).1 = .ofNat ln ∧ p.did.loc = .ofNat ln ∧ p.did.kind ≠ 4
  cases : (p.did.kind = 4 ∧ p.mem = r.mem ∧ p.place = 0) ∨ ∃ ln : Nat, ln < r.g.init.length ∧ p.did.loc = .ofNat ln ∧ p.did.kind ≠ 4 ∧ ((writesB p.did = false ∧ p.mem = r.mem ∧ p.place = 0) ∨ (writesB p.did = true ∧ p.mem = r.mem.set ln p.did.write ∧ p.place = .ofNat (writesG r.g (.ofNat ln)).length))
theorem kind_ne {e : XEv} {n : Int} (h : eqI e.kind n = false) : e.kind ≠ n := fun hh => by rw [hh, eqI_self] at h; cases h
theorem plan_ok {k : Nat} {c : XC} {row : List XEv} {r : XM} {th : Int} {g' : XG} (h : errM k c row r.g = 0) (hadd : addG r.g th (planN (nextM k c row).1 r.mem r.g).did (planN (nextM k c row).1 r.mem r.g).fr (planN (nextM k c row).1 r.mem r.g).place = (some g', 0)) : PlanOK k c row r (planN (nextM k c row).1 r.mem r.g) := by
  obtain ⟨h1, h2, h3, h4⟩ := errM_zero h
  rcases nextM_cases h1 with ⟨e, he, hf, hr⟩ | ⟨a, ha, hk, hf⟩ | ⟨n, hn⟩
  · have key : ∀ p : Plan, planN (nextM k c row).1 r.mem r.g = p → PlanOK k c row r p := by
      rw [he] at h4 hadd ⊢
      intro p hp
      rw [hp] at hadd
      dsimp only at h4
      cases h5 : eqI e.kind 4 with
      | true =>
        rw [planN_fence h5] at hp
        subst hp
        exact ⟨hf, fun hh => (by simp_all), .inl ⟨eq0' h5, rfl, rfl⟩⟩
      | false =>
        obtain ⟨ln, hl, hlt⟩ := badLoc_at h4 h5
        have hl' : e.loc = .ofNat ln := hl
        unfold planN at hp
        rw [hl] at hp
        dsimp only at hp
        rw [h5, show eqI noAsk.kind 0 = true from rfl] at hp
        simp only [show notB true = false from rfl, cond_false] at hp
        cases h6 : eqI e.kind 1 with
        | true =>
          grind [readsB]
        | false =>
          rw [h6] at hp
          simp only [show notB false = true from rfl, cond_true] at hp
          subst hp
          exact ⟨hf, fun _ => ⟨ln, hlt, by rw [he]; exact hl, hl', kind_ne h5⟩, .inr ⟨ln, hlt, hl', kind_ne h5, .inr ⟨writes_of_add hadd hlt, rfl, rfl⟩⟩⟩
    exact key _ rfl
  · have key : ∀ p : Plan, planN (nextM k c row).1 r.mem r.g = p → PlanOK k c row r p := by
      rw [ha] at h4 hadd ⊢
      intro p hp
      rw [hp] at hadd
      have hk0 : eqI a.kind 0 = false := by rcases hk with e | e | e | e <;> rw [e] <;> rfl
      have hL : locN ⟨noEv, a, 0⟩ = a.loc := by unfold locN; dsimp only; rw [hk0]; rfl
      obtain ⟨ln, hl, hlt⟩ := badLoc_at h4 rfl
      unfold planN at hp
      rw [hl] at hp
      dsimp only at hp
      rw [hk0, show eqI noEv.kind 4 = false from rfl] at hp
      simp only [show notB false = true from rfl, cond_true, cond_false] at hp
      have hl2 : ∀ v, (answerI a v).loc = .ofNat ln := fun v => by rw [(answerI_loc hk).1, ← hL, hl]
      have hk4 : ∀ v, (answerI a v).kind ≠ 4 := fun v e4 => by
        have h5 := (answerI_reads (v := v) hk).1
        unfold readsB at h5
        rw [e4] at h5; cases h5
      generalize hv : (r.mem[(Int.ofNat ln).toNat]?).getD 0 = v at hp
      have hlook : locN (nextM k c row).1 = .ofNat ln := by rw [ha]; exact hl
      cases h6 : eqI (answerI a v).kind 1 with
      | true =>
        rw [h6] at hp
        simp only [show notB true = false from rfl, cond_false] at hp
        subst hp
        refine ⟨hf v, fun _ => ⟨ln, hlt, hlook, hl2 v, hk4 v⟩, .inr ⟨ln, hlt, hl2 v, hk4 v, .inl ⟨?_, rfl, rfl⟩⟩⟩
        grind [writesB, eq0']
      | false =>
        rw [h6] at hp
        simp only [show notB false = true from rfl, cond_true] at hp
        subst hp
        exact ⟨hf v, fun _ => ⟨ln, hlt, hlook, hl2 v, hk4 v⟩, .inr ⟨ln, hlt, hl2 v, hk4 v, .inr ⟨writes_of_add hadd hlt, rfl, rfl⟩⟩⟩
    exact key _ rfl
  · rw [hn] at h4 hadd
    exfalso
    obtain ⟨ln, hl, hlt⟩ := badLoc_at h4 rfl
    obtain ⟨hc, _, _, _, _, _, _, _, hp, _, _⟩ := addG_inv hadd
    have hp : (!eqI (.ofNat (writesG r.g (locN ⟨noEv, noAsk, n⟩)).length) 0) = false := hp
    obtain ⟨q, hq⟩ := order_some hc hlt
    rw [hl, writesG_at (by rw [hc]; rfl) hq] at hp
    cases hp
theorem MInv.step {k : Nat} {l : List XC} {r r' : XM} {t : Nat} (h : MInv k l r) (hs : stepM k l r t = (some r', 0)) : MInv k l r' ∧ r'.g.init = r.g.init := by
  obtain ⟨c, row, p, hp⟩ := stepM_is hs
  have hadd := hp.add
  rw [hp.plan] at hadd
  have hok := plan_ok hp.err hadd
  rw [← hp.plan] at hok hadd
  obtain ⟨tm, row', ht, k1, hck, hck', hnew, _, _, hold, _⟩ := add_facts hadd
  have hi := add_init hadd
  obtain ⟨row2, hr2, hth⟩ := add_row hadd
  rw [hp.rowAt] at hr2
  cases hr2
  have hlen : r'.g.threads.length = l.length := by rw [hth, List.length_set]; exact h.len
  have htm : tm = t := by grind
  subst htm
  rw [hp.rowAt] at k1
  cases k1
  refine ⟨⟨hck', hlen, ?_, fun i hlt => ?_, fun t2 c2 row2 h1 h2 => ?_⟩, hi⟩
  · rw [hp.mem, hi, ← h.mem]
    rcases hok.cases with ⟨_, e, _⟩ | ⟨ln, _, _, _, ⟨_, e, _⟩ | ⟨_, e, _⟩⟩ <;> rw [e]
    rw [List.length_set]
  · rw [hi] at hlt
    rw [hp.mem]
    have same : (writesB p.did = true → p.did.loc ≠ .ofNat i) → lastG r'.g (.ofNat i) = lastG r.g (.ofNat i) := fun hw => last_same hck hck' hold hlt (add_order hadd hw)
    rcases hok.cases with ⟨e1, e, _⟩ | ⟨ln, hln, hloc, _, ⟨e1, e, _⟩ | ⟨hw, e, epl⟩⟩
    · rw [e, same (fun hw => by unfold writesB at hw; rw [e1] at hw; cases hw)]; exact h.last i hlt
    · rw [e, same (fun hw => by simp_all)]; exact h.last i hlt
    · rw [e]
      by_cases hil : ln = i
      · subst hil
        rw [List.getElem?_set_self (by rw [h.mem]; exact hln)]
        obtain ⟨q, hq⟩ := order_some hck hln
        have hpl : p.place = .ofNat (q.length + 1) := by rw [epl, writesG_at (by rw [hck]; rfl) hq]; rfl
        rw [hpl] at hadd
        obtain ⟨row3, h3, ho⟩ := add_orderW hq hadd hw hloc
        rw [hp.rowAt] at h3
        grind [lastG_at, List.getLast?_append, evD]
      · rw [List.getElem?_set_ne hil, same (fun _ => by grind)]
        exact h.last i hlt
  · rw [hth] at h2
    by_cases e : tm = t2
    · subst e
      rw [List.getElem?_set_self (List.getElem?_eq_some_iff.1 hp.rowAt).1] at h2
      rw [hp.code] at h1
      cases h1; cases h2
      exact hok.fits
    · rw [List.getElem?_set_ne e] at h2
      exact h.fits t2 c2 row2 h1 h2
theorem MInv.start {k : Nat} {l : List XC} {init : List Int} (hl : l.length ≤ 4) (hi : init.length ≤ 6) (hf : ∀ c ∈ l, flatX k c = true) : MInv k l ⟨init, ⟨init, List.replicate l.length [], List.replicate l.length [], List.replicate init.length []⟩⟩ := by
  have hw : ∀ n t, wrAll (List.replicate n []) t = [] := by
    intro n
    induction n with
    | zero => intro t; rfl
    | succ n ih => grind [wrRow, wrAll]
  have ho : ∀ n t, ordL (List.replicate n []) t = [] := by
    intro n
    induction n with
    | zero => intro t; rfl
    | succ n ih => grind [ordRow, ordL]
  have hr : Right ⟨init, List.replicate l.length [], List.replicate l.length [], List.replicate init.length []⟩ := by
    refine ⟨by simpa using hl, hi, fun i x hx => ?_, by simp, by simp, fun i x f hx hf => ?_, ?_⟩
    · grind
    · grind
    simp_all
  have hc := right_iff.2 hr
  refine ⟨hc, by simp, rfl, fun i hlt => ?_, fun t c row h1 h2 => ?_⟩
  · have hq : (List.replicate init.length ([] : List XId))[i]? = some [] := by
      simp_all
    rw [lastG_at hc hq]
    show init[i]? = some (evD ((init[i]?).map fun v => (⟨2, i, 1, 0, v⟩ : XEv))).write
    rw [List.getElem?_eq_getElem hlt]; rfl
  grind [fits_nil]
theorem St.keeps_ex {σ : AHeap} {K : KP} {M L : Own} (h : St σ K (M ++ L)) : ∃ K1, KP.le K K1 ∧ (∀ e ∈ M, K1 e.1 e.2) ∧ St σ K1 L := ⟨K.adds M, KP.le_adds _ _, fun e he => .inr he, h.keeps⟩
theorem stepC_next {k : Nat} {c : XC} {s : TS} {x : XI} (hx : c.ins[s.at_]? = some x) (h : (stepC k c s).2 = true) : (stepC k c s).1.at_ ∈ nextN c s.at_ := by
  obtain ⟨P, hP⟩ : ∃ P : TS × Bool → Prop, P = fun r => r.2 = true → r.1.at_ ∈ nextN c s.at_ := ⟨_, rfl⟩
  have hN : nextN c s.at_ = (nextI x s.at_).map Int.toNat := by unfold nextN; rw [hx]
  have hno : ∀ r : TS × Bool, r.2 = false → P r := fun r h1 => by simp_all
  have hon : (eqI x.kind 10 = false) → (eqI x.kind 12 = false) → (eqI x.kind 13 = false) → ∀ r : TS × Bool, r.1.at_ = s.at_ + 1 → P r := fun h0 h2 h3 r h1 => by
    grind [nextI]
  have ne : ∀ (a b : Int), eqI x.kind a = true → a ≠ b → eqI x.kind b = false := fun a b h h' => by
    rw [eqI_eq, decide_eq_true_iff] at h
    rw [eqI_eq, decide_eq_false_iff_not, h]; exact h'
  have : P (stepC k c s) := by
    unfold stepC
    rw [hx]
    dsimp only
    unfold stepI
    refine cond_ind' _ (fun e => hon (ne _ _ e (by decide)) (ne _ _ e (by decide)) (ne _ _ e (by decide)) _ rfl) fun e1 => cond_ind' _ (fun e => hon (ne _ _ e (by decide)) (ne _ _ e (by decide)) (ne _ _ e (by decide)) _ rfl) fun e3 => cond_ind' _ (fun e => hon (ne _ _ e (by decide)) (ne _ _ e (by decide)) (ne _ _ e (by decide)) _ rfl) fun e7 =>
      cond_ind' _ (fun e => cond_ind _ (hno _ rfl) (hon (ne _ _ e (by decide)) (ne _ _ e (by decide)) (ne _ _ e (by decide)) _ rfl)) fun e8 => cond_ind' _ (fun e => cond_ind _ (hno _ rfl) (hon (ne _ _ e (by decide)) (ne _ _ e (by decide)) (ne _ _ e (by decide)) _ rfl)) fun e9 =>
      cond_ind' _ (fun e => ?_) fun e10 => cond_ind' _ (fun e => cond_ind _ ?_ (hon (ne _ _ e (by decide)) (ne _ _ e (by decide)) (ne _ _ e (by decide)) _ rfl)) fun e11 => cond_ind' _ (fun _ => hno _ rfl) fun e12 => cond_ind' _ (fun _ => hno _ rfl) fun e13 => hno _ rfl
    · rw [hP]; intro _; rw [hN]; unfold nextI; rw [e]; simp
    grind [nextI]
  simp_all
theorem stepC_len {k : Nat} {c : XC} {s : TS} : (stepC k c s).1.regs.length = s.regs.length ∧ (stepC k c s).1.events.length ≤ s.events.length + 1 := by
  obtain ⟨P, hP⟩ : ∃ P : TS × Bool → Prop, P = fun r => r.1.regs.length = s.regs.length ∧ r.1.events.length ≤ s.events.length + 1 := ⟨_, rfl⟩
  have h0 : ∀ r : TS × Bool, r.1.regs = s.regs → r.1.events = s.events → P r := fun r h1 h2 => by simp_all
  have h1 : ∀ (r : TS × Bool) (e : XEv), r.1.regs = s.regs → r.1.events = s.events ++ [e] → P r := fun r e h1 h2 => by simp_all
  have : P (stepC k c s) := by
    unfold stepC
    cases hx : c.ins[s.at_]? with
    | none => exact h0 _ rfl rfl
    | some x =>
      dsimp only
      unfold stepI
      grind
  simp_all
structure TOK (c : XC) (s : TS) : Prop where
  at_ : s.at_ < c.ins.length
  regs : s.regs.length = c.regs.toNat
  events : s.events.length ≤ 1000000
structure TIn (c : XC) (out : List Nat) (s : TS) : Prop where
  at_ : s.at_ ∈ out
  regs : s.regs.length = c.regs.toNat
theorem stepC_stay {k : Nat} {c : XC} {s : TS} (h : (stepC k c s).2 = false) : (stepC k c s).1.at_ = s.at_ := by
  obtain ⟨P, hP⟩ : ∃ P : TS × Bool → Prop, P = fun r => r.2 = false → r.1.at_ = s.at_ := ⟨_, rfl⟩
  have hy : ∀ r : TS × Bool, r.2 = true → P r := fun r h1 => by simp_all
  have hn : ∀ r : TS × Bool, r.1.at_ = s.at_ → P r := fun r h1 => by simp_all
  have : P (stepC k c s) := by
    unfold stepC
    cases hx : c.ins[s.at_]? with
    | none => exact hn _ rfl
    | some x =>
      dsimp only
      unfold stepI
      grind
  simp_all
theorem TIn.lt {c : XC} {out : List Nat} {s : TS} (h : TIn c out s) (hR : Ranked (nextN c) c.ins.length out) : s.at_ < c.ins.length := hR.lt _ h.at_
theorem TIn.step {k : Nat} {c : XC} {out : List Nat} {s : TS} (h : TIn c out s) (hR : Ranked (nextN c) c.ins.length out) : TIn c out (stepC k c s).1 := by
  refine ⟨?_, by rw [stepC_len.1]; exact h.regs⟩
  cases hb : (stepC k c s).2 with
  | false => rw [stepC_stay hb]; exact h.at_
  | true =>
    obtain ⟨x, hx⟩ := at_of (h.lt hR)
    obtain ⟨q, hq⟩ := List.getElem?_of_mem h.at_
    obtain ⟨q', _, hq'⟩ := hR.rank q _ hq _ (stepC_next hx hb)
    grind
def Mem6 (m : List Int) (x0 x1 x2 x3 x4 x5 : Int) : Prop := [x0, x1, x2, x3, x4, x5] = m ++ List.replicate (6 - m.length) 0
abbrev c6 (x0 x1 x2 x3 x4 x5 : Int) (a b c d : AV) : List AV := [.int .i64 x0, .int .i64 x1, .int .i64 x2, .int .i64 x3, .int .i64 x4, .int .i64 x5, a, b, c, d]
theorem Mem6.le {m : List Int} {x0 x1 x2 x3 x4 x5 : Int} (h : Mem6 m x0 x1 x2 x3 x4 x5) : m.length ≤ 6 := by
  have := congrArg List.length h
  rw [List.length_append, List.length_replicate] at this
  have e : [x0, x1, x2, x3, x4, x5].length = 6 := rfl
  omega
theorem Mem6.at_ {m : List Int} {x0 x1 x2 x3 x4 x5 : Int} (h : Mem6 m x0 x1 x2 x3 x4 x5) {a b c d : AV} {ln : Nat} (hl : ln < m.length) : ∃ y, m[ln]? = some y ∧ nth (c6 x0 x1 x2 x3 x4 x5 a b c d) (0 + ln * 1) = some (.int .i64 y) := by
  have h6 := h.le
  obtain ⟨y, hy⟩ := at_of hl
  have : [x0, x1, x2, x3, x4, x5][ln]? = some y := by rw [show [x0, x1, x2, x3, x4, x5] = _ from h, List.getElem?_append_left hl]; exact hy
  refine ⟨y, hy, ?_⟩
  rw [nth_eq, Nat.mul_one, Nat.zero_add]
  grind
theorem Mem6.set {m : List Int} {x0 x1 x2 x3 x4 x5 : Int} (h : Mem6 m x0 x1 x2 x3 x4 x5) {a b c d : AV} {ln : Nat} (hl : ln < m.length) (v : Int) : ∃ y0 y1 y2 y3 y4 y5, splice [.int .i64 v] (c6 x0 x1 x2 x3 x4 x5 a b c d) (0 + ln * 1) = c6 y0 y1 y2 y3 y4 y5 a b c d ∧ Mem6 (m.set ln v) y0 y1 y2 y3 y4 y5 := by
  have h6 := h.le
  have hs : [x0, x1, x2, x3, x4, x5].set ln v = m.set ln v ++ List.replicate (6 - (m.set ln v).length) 0 := by rw [show [x0, x1, x2, x3, x4, x5] = _ from h, List.set_append_left _ _ hl, List.length_set]
  have hl6 : ln < 6 := by omega
  match ln, hl6 with
  | 0, _ => exact ⟨v, x1, x2, x3, x4, x5, rfl, hs⟩
  | 1, _ => exact ⟨x0, v, x2, x3, x4, x5, rfl, hs⟩
  | 2, _ => exact ⟨x0, x1, v, x3, x4, x5, rfl, hs⟩
  | 3, _ => exact ⟨x0, x1, x2, v, x4, x5, rfl, hs⟩
  | 4, _ => exact ⟨x0, x1, x2, x3, v, x5, rfl, hs⟩
  | 5, _ => exact ⟨x0, x1, x2, x3, x4, v, rfl, hs⟩
end Go.Ev
namespace Go.Ev
variable [Env]
theorem RStr.leaf : ∀ x vs, RStr x vs → allLeaf vs = true := fun _ _ h => by cases h; rfl
theorem OwnS.keep {α : Type} {m E : Nat} {R : α → List AV → Prop} {l : List α} {u : AV} {M : Own} {K : KP} (h : OwnS m E R l u M) : HasS (K.adds M) m R l u := h.hasS fun _ he => .inr he
theorem OwnS.monoR {α : Type} {m E : Nat} {R R' : α → List AV → Prop} {l : List α} {u : AV} {M : Own} (h : OwnS m E R l u M) (hR : ∀ x vs, R x vs → R' x vs) : OwnS m E R' l u M := by
  rcases h with h | ⟨b, c, cells, e, h1, h2, h3, h4, h5⟩
  · exact .inl h
  · exact .inr ⟨b, c, cells, e, h1, h2, h3, fun i x hx => hR x _ (h4 i x hx), h5⟩
theorem HasE.leaf {K : KP} {k : Nat} : ∀ x vs, HasE K k x vs → allLeaf vs = true := fun x vs h => by
  obtain ⟨o, n, s, v, rfl, hk⟩ := h.shape
  exact allLeaf_cons rfl (allLeaf_cons rfl (allLeaf_cons rfl (allLeaf_cons hk.leaf.2 allLeaf_nil)))
theorem OwnS.empty {α : Type} {m E b e : Nat} {R : α → List AV → Prop} : OwnS m E R ([] : List α) (.slice b 0 0 (.known 0)) [(b, .row [] e false)] := .inr ⟨b, .known 0, [], e, rfl, rfl, by simp, fun i x h => by simp at h, .inl rfl, by simp⟩
theorem OwnS.nil {α : Type} {m E : Nat} {R : α → List AV → Prop} : OwnS m E R ([] : List α) .nilSlice [] := .inl ⟨rfl, rfl, rfl⟩
end Go.Ev
namespace Go.Ev
section
variable [Env] {H : Type}
def Fit (P : Program) : Nat → TypeId → DataW H → Prop
  | 0, _, _ => False
  | fuel + 1, t, d =>
    match P.underlying t with
    | some .bool => ∃ b, d = .lit (.bool b)
    | some (.int k) => ∃ n, d = .lit (.int k n)
    | some .string => ∃ s, d = .lit (.string s) ∧ s.length ≤ maxLen
    | some (.slice e) => d = .nil ∨ ∃ elems spare, d = .slice elems spare ∧ ∀ x ∈ elems, Fit P fuel e x
    | some (.struct fs) => ∃ parts, d = .agg parts ∧ parts.length = fs.size ∧ ∀ (i : Nat) (f : Field) (x : DataW H), fs[i]? = some f → parts[i]? = some x → Fit P fuel f.type x
    | _ => True
theorem mapM_all {α β : Type} {f : α → Option β} : ∀ {l : List α} {ys : List β}, l.mapM f = some ys → ys.length = l.length ∧ ∀ (i : Nat) (x : α), l[i]? = some x → ∃ y, ys[i]? = some y ∧ f x = some y
  | [], ys, h => by simp_all
  | a :: l, ys, h => by
    simp only [List.mapM_cons, Option.bind_eq_bind, Option.bind_eq_some_iff, Option.pure_def, Option.some.injEq] at h
    obtain ⟨y, h1, r, h2, rfl⟩ := h
    obtain ⟨k1, k2⟩ := mapM_all h2
    grind
variable {enc : TypeId × Value → H} {P : Program} {w : World}
theorem fit_of_trod : ∀ (fuel : Nat) (t : TypeId) (cs : List Value) (d : DataW H) (p : List MemPlace), DataW.trod enc P w 0 (fun _ => true) true fuel t cs = some (d, p) → Fit P fuel t d
  | 0, _, _, _, _, h => by simp [DataW.trod] at h
  | fuel + 1, t, cs, d, p, h => by
    have ih := fit_of_trod fuel
    unfold Fit
    cases hu : P.underlying t with
    | none => trivial
    | some u =>
      unfold DataW.trod at h
      rw [hu] at h
      cases u with
      | bool =>
        split at h <;> first | (rename_i he; cases he; done) | skip
        all_goals first
          | (cases h; exact ⟨_, rfl⟩)
          | cases h
      | int k =>
        split at h <;> first | (rename_i he; cases he; done) | skip
        all_goals first
          | (rename_i k1 k2 n he
             cases he
             split at h
             · cases h; exact ⟨_, rfl⟩
             · cases h)
          | cases h
      | string =>
        split at h <;> first | (rename_i he; cases he; done) | skip
        all_goals first
          | (split at h
             · rename_i hsz; cases h; exact ⟨_, rfl, by rw [Array.length_toList]; exact hsz⟩
             · cases h)
          | cases h
      | struct fs =>
        dsimp only at h ⊢
        split at h
        · obtain ⟨xs, hxs, hx⟩ := Option.map_eq_some_iff.1 h
          have hd : d = .agg (xs.map (·.1)) := by have := congrArg Prod.fst hx; simpa using this.symm
          obtain ⟨k1, k2⟩ := mapM_all hxs
          refine ⟨_, hd, by simpa using k1, fun i f x hf hxx => ?_⟩
          obtain ⟨y, hy, hfy⟩ := k2 i f (by rw [Array.getElem?_toList]; exact hf)
          rw [List.getElem?_map, hy] at hxx
          cases hxx
          exact ih _ _ _ y.2 hfy
        · cases h
      | slice e =>
        split at h <;> first | (rename_i he; cases he; done) | skip
        · cases h; exact .inl rfl
        · rename_i e' a len cap he
          cases he
          dsimp only at h
          rw [if_pos rfl] at h
          split at h
          · obtain ⟨elems, he1, hr⟩ := Option.bind_eq_some_iff.1 h
            obtain ⟨rest, _, hd⟩ := Option.map_eq_some_iff.1 hr
            have hd : d = .slice (elems.map (·.1)) (rest.map (·.1)) := by have := congrArg Prod.fst hd; simpa using this.symm
            refine .inr ⟨_, _, hd, fun x hx => ?_⟩
            obtain ⟨y, hy, rfl⟩ := List.mem_map.1 hx
            obtain ⟨i, hi⟩ := List.getElem?_of_mem hy
            obtain ⟨k1, k2⟩ := mapM_get he1
            obtain ⟨j, _, hj⟩ := k2 i y hi
            obtain ⟨c, _, hc⟩ := Option.bind_eq_some_iff.1 hj
            exact ih _ _ _ y.2 hc
          · cases h
        all_goals cases h
      | _ => trivial
end
section
variable [Env] {P : Program} {G : Cx}
def KOf (σ : AHeap) : KP := fun b o => b < σ.next ∧ σ.m.get b = some o
theorem St.of (σ : AHeap) : St σ (KOf σ) [] := ⟨fun b o h => ⟨h.1, h.2, fun e he => by cases he⟩, fun e he => (by cases he), List.Pairwise.nil⟩
theorem Keeps.of_ro {w w' : World} {ρ ρ' : Ren} {σ σ' : AHeap} (h : Stp ρ σ w ρ' σ' w') (hr : AllRo σ) : Keeps w w' :=
  ⟨h.os, h.out, h.tape, h.size, fun r hr' => h.frame r hr' fun ⟨b, o, l, h1, h2, _⟩ => by rw [hr b o h1] at h2; cases h2⟩
theorem calls_of_ev (hm : P.follows .mixedOrders = true) (hC : CxOK P G) {ρ : Ren} {σ : AHeap} {w : World} {f : Nat} {args : List AV} {xs : Array Value} {R : AV → AHeap → Prop} (hi : Inv ρ σ w) (hg : GR ρ G) (hr : AllRo σ) (hx : VRs ρ args xs.toList) (h : EvCall P G f args σ R) :
    Calls P f xs w fun e w' => ∃ v x σ' ρ', e = .returned x ∧ Keeps w w' ∧ VR ρ' v x ∧ R v σ' := by
  obtain ⟨K, v, σ', h1, h2⟩ := h
  exact evalCall_sound (fuel := K) hm hC (h1 K (Nat.le_refl _)) hi hg hx fun ρ' w' x _ st hv => ⟨v, x, σ', ρ', rfl, Keeps.of_ro st hr, hv, h2⟩
theorem AllRo.leaf : AllRo σ0 := fun b o h => by
  have : (PT.leaf : PT AObj).get b = some o := h
  rw [PT.get_leaf] at this; cases this
theorem HasD.fresh {ρ : Ren} {σ : AHeap} {w : World} (hi : Inv ρ σ w) {b : Nat} {o : AObj} (h : σ.m.get b = some o) : b < σ.next := by
  rcases Nat.lt_or_ge b σ.next with h' | h'
  · exact h'
  · rw [(hi.fresh b h').2] at h; cases h
end
section
variable {H : Type}
def litI : DataW H → Int
  | .lit (.int _ n) => n
  | _ => 0
def elemsD : DataW H → List (DataW H)
  | .slice l _ => l
  | _ => []
def partD (d : DataW H) (i : Nat) : DataW H :=
  match d with
  | .agg ps => ps.getD i .nil
  | _ => .nil
end
section
variable [Env] {H : Type} {P : Program} {σ : AHeap}
theorem int_of {fuel : Nat} {t : TypeId} {d : DataW H} {vs : List AV} {k : IntKind} (hu : P.underlying t = some (.int k)) (hf : Fit P fuel t d) (hd : HasD P σ fuel t d vs) : vs = [.int k (litI d)] ∧ (Lit.int k (litI d)).wf = true := by
  cases fuel with
  | zero => exact hf.elim
  | succ fuel =>
    unfold Fit at hf
    rw [hu] at hf
    obtain ⟨n, rfl⟩ := hf
    unfold HasD at hd
    rw [hu] at hd
    obtain ⟨_, h2, rfl⟩ := hd
    exact ⟨rfl, h2⟩
theorem slice_of {α : Type} {fuel : Nat} {t e : TypeId} {m : Nat} {d : DataW H} {vs : List AV} (F : DataW H → α) (R : α → List AV → Prop) (hu : P.underlying t = some (.slice e)) (hm : P.cellsOf e = m) (h1 : 1 ≤ m) (hn : ∀ (b : Nat) (o : AObj), σ.m.get b = some o → b < σ.next) (hf : Fit P (fuel + 1) t d) (hd : HasD P σ (fuel + 1) t d vs)
    (hR : ∀ x vs, Fit P fuel e x → HasD P σ fuel e x vs → R (F x) vs) : ∃ v, vs = [v] ∧ HasS (KOf σ) m R ((elemsD d).map F) v := by
  unfold Fit at hf
  rw [hu] at hf
  dsimp only at hf
  unfold HasD at hd
  rw [hu] at hd
  rcases hf with rfl | ⟨elems, spare, rfl, hall⟩
  · dsimp only at hd
    exact ⟨_, hd, .inl ⟨rfl, rfl⟩⟩
  · dsimp only at hd
    rw [hm] at hd
    obtain ⟨b, c, cells, e', rfl, k2, k3, k4, k5, k6⟩ := hd h1
    refine ⟨_, rfl, .inr ⟨b, 0, c, cells, e', true, by rw [show (elemsD (DataW.slice elems spare)).map F = elems.map F from rfl, List.length_map], ?_, ⟨hn b _ k3, k3⟩, ?_, ?_, fun i x hx => ?_⟩⟩
    · rw [show (elemsD (DataW.slice elems spare)).map F = elems.map F from rfl, List.length_map]
      rcases k4 with rfl | rfl
      · exact .inr ⟨_, rfl, Nat.le_add_right _ _⟩
      · exact .inl rfl
    · rw [show (elemsD (DataW.slice elems spare)).map F = elems.map F from rfl, List.length_map, k5, Nat.zero_add]; exact Nat.le_refl _
    · rw [show (elemsD (DataW.slice elems spare)).map F = elems.map F from rfl, List.length_map]; exact k2
    · rw [show (elemsD (DataW.slice elems spare)).map F = elems.map F from rfl, List.getElem?_map, Option.map_eq_some_iff] at hx
      grind
theorem struct_of {fuel : Nat} {t : TypeId} {fs : Array Field} {d : DataW H} {vs : List AV} {m : Nat} (hu : P.underlying t = some (.struct fs)) (hc : P.cellsOf t = m) (ht : tiles P fs.toList 0 = some m) (hf : Fit P (fuel + 1) t d) (hd : HasD P σ (fuel + 1) t d vs) :
    vs.length = m ∧ ∀ (i : Nat) (f : Field), fs[i]? = some f → Fit P fuel f.type (partD d i) ∧ HasD P σ fuel f.type (partD d i) ((vs.drop f.offset).take (P.cellsOf f.type)) := by
  unfold Fit at hf
  rw [hu] at hf
  dsimp only at hf
  obtain ⟨parts, rfl, hn, hall⟩ := hf
  unfold HasD at hd
  grind [partD]
theorem HasS.monoR {α : Type} {K : KP} {m : Nat} {R R' : α → List AV → Prop} {l : List α} {v : AV} (h : HasS K m R l v) (hR : ∀ x vs, R x vs → R' x vs) : HasS K m R' l v := h.mono (KP.le_refl K) hR
theorem HasE.up {K : KP} : ∀ {k : Nat} {x : XE} {vs : List AV}, HasE K k x vs → HasE K (k + 1) x vs
  | 0, x, _, h => by cases x; exact h.elim
  | k + 1, .mk op num name kids, vs, h => by
    obtain ⟨v, rfl, hk⟩ := h
    exact ⟨v, rfl, hk.monoR fun x vs h => HasE.up h⟩
end
theorem carry_old {H : Type} {enc : TypeId × Value → H} {P : Program} {w w' : World} {sp : Nat → Bool} (hs : ∀ r : Nat, r < w.heap.size → w'.heap[r]? = w.heap[r]?) {fuel : Nat} {t : TypeId} {cs : List Value} {x : DataW H × List MemPlace}
    (h : DataW.trod enc P w 0 sp true fuel t cs = some x) : DataW.trod enc P w' 0 sp true fuel t cs = some x := by
  refine DataW.trod_carry fuel t cs x h fun p hp => ?_
  have hlt := DataW.trod_lt fuel t cs x h p hp
  cases p with
  | cell b off =>
    show w'.cell? ⟨b, off, none⟩ = w.cell? ⟨b, off, none⟩
    unfold World.cell?
    rw [hs b hlt]
  | map b => exact hs b hlt
theorem carryAll_old {H : Type} {enc : TypeId × Value → H} {P : Program} {w w' : World} {sp : Nat → Bool} (hs : ∀ r : Nat, r < w.heap.size → w'.heap[r]? = w.heap[r]?) : ∀ {ts : List TypeId} {vs : List Value} {ds : List (DataW H)} {ps : List MemPlace},
    DataW.TrodAll enc P w 0 sp true ts vs ds ps → DataW.TrodAll enc P w' 0 sp true ts vs ds ps
  | [], [], [], _, h => h
  | _ :: _, _ :: _, _ :: _, _, ⟨p, q, ⟨n, h1⟩, h2, e⟩ => ⟨p, q, ⟨n, carry_old hs h1⟩, carryAll_old hs h2, e⟩
theorem reads_again {H : Type} {enc : TypeId × Value → H} {P : Program} (hl : laidOutB P = true) (hm : mapsRowed P = true) (hz : ((List.range P.types.size).all fun t => match P.underlying t with | some (.slice e) => decide (0 < P.cellsOf e) | _ => true) = true) {w w' : World} (hk : Keeps w w') {ts : List TypeId} {vs : List Value} {ds : List (DataW H)} {ps : List MemPlace}
    (hT : (ts.all fun t => decide (t < P.types.size)) = true) (h : DataW.TrodAll enc P w 0 (fun _ => true) true ts vs ds ps) {sp : Nat → Bool} (hsp : ∀ p ∈ ps, sp p.block = true) : DataW.TrodAll enc P w' 0 sp true ts vs ds ps :=
  carryAll_old hk.same (h.respare (kids_rows hl hm) (slices_full_of P hz) (fun t ht => of_decide_eq_true (List.all_eq_true.1 hT t ht)) hsp)
end Go.Ev
namespace Go.Ev
variable [Env]
def beqAs (xs ys : List AV) : Bool :=
  List.rec (motive := fun _ => List AV → Bool) (fun ys => List.rec (motive := fun _ => Bool) true (fun _ _ _ => false) ys)
    (fun x _ ih ys => List.rec (motive := fun _ => Bool) false (fun y r _ => bif beqA x y then ih r else false) ys) xs ys
def beqV (x y : AV) : Bool :=
  match x, y with
  | .tuple xs, .tuple ys => beqAs xs ys
  | x, y => beqA x y
def eqEnts (xs ys : List AEnt) : Bool :=
  List.rec (motive := fun _ => List AEnt → Bool) (fun ys => List.rec (motive := fun _ => Bool) true (fun _ _ _ => false) ys)
    (fun x _ ih ys => List.rec (motive := fun _ => Bool) false (fun y r _ => bif beqA x.key y.key then (bif beqA x.val y.val then (bif Nat.beq x.born y.born then ih r else false) else false) else false) ys) xs ys
def eqObj (x y : AObj) : Bool :=
  match x, y with
  | .row c e false, .row c' e' false => bif Nat.beq e e' then beqA.beqL c c' else false
  | .own c e, .own c' e' => bif Nat.beq e e' then beqA.beqL c c' else false
  | .map es k, .map es' k' => bif Nat.beq k k' then eqEnts es es' else false
  | .iter s p, .iter s' p' => bif Nat.beq p p' then eqS s s' else false
  | .mark, .mark => true
  | .dead, .dead => true
  | _, _ => false
def subL (l : List (Nat × AObj)) (σ : AHeap) : Bool :=
  List.rec (motive := fun _ => Bool) true (fun x _ r => match σ.m.get x.1 with | some o => bif eqObj o x.2 then r else false | none => false) l
def hitM (gl : Nat) (laid : List (Nat × List AV)) (e : ME) (f : Nat) (args : List AV) (σ : AHeap) : Bool :=
  bif Nat.beq e.f f then (bif beqAs args e.args then (bif Nat.beq σ.next e.next then (bif laidGo gl σ laid then subL e.l σ else false) else false) else false) else false
def findM (gl : Nat) (laid : List (Nat × List AV)) (mem : List ME) (f : Nat) (args : List AV) (σ : AHeap) : Option ME :=
  List.rec (motive := fun _ => Option ME) none (fun e _ r => bif hitM gl laid e f args σ then some e else r) mem
def dropAll (l : List (Nat × AObj)) (m : PT AObj) : PT AObj := List.rec (motive := fun _ => PT AObj) m (fun x _ r => r.put none x.1) l
def putAllM (l : List (Nat × AObj)) (m : PT AObj) : PT AObj := List.rec (motive := fun _ => PT AObj) m (fun x _ r => r.put (some x.2) x.1) l
def layM (σ : AHeap) (e : ME) : AHeap := { next := e.next', m := putAllM e.l' (dropAll e.l σ.m) }
def baseM (laid : List (Nat × List AV)) (E : Nat → TypeId) (e : ME) : AHeap := { next := e.next, m := putAllM e.l (laidPT laid E) }
def wfM (gl : Nat) (laid : List (Nat × List AV)) (e : ME) : Bool :=
  Nat.ble gl e.next && (Nat.ble e.next e.next' && ((laid.all fun x => Nat.blt x.1 gl) && ((e.l.all fun x => Nat.ble gl x.1 && (Nat.blt x.1 e.next && !x.2.ro)) && (e.l'.all fun x => Nat.ble gl x.1 && (Nat.blt x.1 e.next' && (!x.2.ro && (Nat.ble e.next x.1 || e.l.any fun y => Nat.beq y.1 x.1)))))))
theorem beqAs_eq : ∀ {xs ys : List AV}, beqAs xs ys = true → xs = ys
  | [], [], _ => rfl
  | [], _ :: _, h => by cases h
  | _ :: _, [], h => by cases h
  | x :: xs, y :: ys, h => by
    have h' : (bif beqA x y then beqAs xs ys else false) = true := h
    rw [ite_cond] at h'
    split at h'
    · rename_i hb; rw [beqA_eq hb, beqAs_eq h']
    · cases h'
theorem beqV_eq {x y : AV} (h : beqV x y = true) : x = y := by
  unfold beqV at h
  split at h
  · rw [beqAs_eq h]
  · exact beqA_eq h
theorem eqEnts_eq : ∀ {xs ys : List AEnt}, eqEnts xs ys = true → xs = ys
  | [], [], _ => rfl
  | [], _ :: _, h => by cases h
  | _ :: _, [], h => by cases h
  | x :: xs, y :: ys, h => by
    have h' : (bif beqA x.key y.key then (bif beqA x.val y.val then (bif Nat.beq x.born y.born then eqEnts xs ys else false) else false) else false) = true := h
    rw [ite_cond] at h'
    split at h'
    · rename_i h1
      rw [ite_cond] at h'
      split at h'
      · rename_i h2
        rw [ite_cond] at h'
        split at h'
        · rename_i h3
          have e1 := beqA_eq h1
          have e2 := beqA_eq h2
          have e3 := Nat.eq_of_beq_eq_true h3
          rw [eqEnts_eq h']
          cases x; cases y
          simp only at e1 e2 e3
          subst e1; subst e2; subst e3
          rfl
        · cases h'
      · cases h'
    · cases h'
theorem eqObj_eq {x y : AObj} (h : eqObj x y = true) : x = y := by
  unfold eqObj at h
  split at h
  · rw [ite_cond] at h
    split at h
    · rename_i he; rw [Nat.eq_of_beq_eq_true he, beqL_eq h]
    · cases h
  · rw [ite_cond] at h
    split at h
    · rename_i he; rw [Nat.eq_of_beq_eq_true he, beqL_eq h]
    · cases h
  · rw [ite_cond] at h
    split at h
    · rename_i he; rw [Nat.eq_of_beq_eq_true he, eqEnts_eq h]
    · cases h
  · rw [ite_cond] at h
    split at h
    · rename_i he
      rw [eqS_eq, decide_eq_true_eq] at h
      rw [Nat.eq_of_beq_eq_true he, h]
    · cases h
  · rfl
  · rfl
  · cases h
theorem subL_all : ∀ {l : List (Nat × AObj)} {σ : AHeap}, subL l σ = true → ∀ x ∈ l, σ.m.get x.1 = some x.2
  | [], σ, _, x, hx => by cases hx
  | y :: l, σ, h, x, hx => by
    have h' : (match σ.m.get y.1 with | some o => bif eqObj o y.2 then subL l σ else false | none => false) = true := h
    split at h'
    · rename_i o ho
      rw [ite_cond] at h'
      split at h'
      · rename_i he
        rcases List.mem_cons.1 hx with rfl | hx
        · rw [ho, eqObj_eq he]
        · exact subL_all h' x hx
      · cases h'
    · cases h'
theorem putAllM_get : ∀ {l : List (Nat × AObj)} {m : PT AObj} {b : Nat} {o : AObj}, (putAllM l m).get b = some o → (∃ x ∈ l, x.1 = b ∧ x.2 = o) ∨ ((∀ x ∈ l, x.1 ≠ b) ∧ m.get b = some o)
  | [], m, b, o, h => .inr ⟨fun x hx => (by cases hx), h⟩
  | y :: l, m, b, o, h => by
    have h' : ((putAllM l m).put (some y.2) y.1).get b = some o := h
    rw [PT.get_put] at h'
    split at h'
    · rename_i e
      cases h'
      exact .inl ⟨y, List.mem_cons_self, e.symm, rfl⟩
    · rename_i hne
      rcases putAllM_get h' with ⟨x, h1, h2⟩ | ⟨h1, h2⟩
      · exact .inl ⟨x, List.mem_cons_of_mem _ h1, h2⟩
      · refine .inr ⟨fun x hx => ?_, h2⟩
        rcases List.mem_cons.1 hx with rfl | hx
        · exact fun e => hne e.symm
        · exact h1 x hx
theorem dropAll_get : ∀ {l : List (Nat × AObj)} {m : PT AObj} {b : Nat} {o : AObj}, (dropAll l m).get b = some o → (∀ x ∈ l, x.1 ≠ b) ∧ m.get b = some o
  | [], m, b, o, h => ⟨fun x hx => (by cases hx), h⟩
  | y :: l, m, b, o, h => by
    have h' : ((dropAll l m).put none y.1).get b = some o := h
    rw [PT.get_put] at h'
    split at h'
    · cases h'
    · rename_i hne
      obtain ⟨h1, h2⟩ := dropAll_get h'
      refine ⟨fun x hx => ?_, h2⟩
      rcases List.mem_cons.1 hx with rfl | hx
      · exact fun e => hne e.symm
      · exact h1 x hx
theorem baseM_get {laid : List (Nat × List AV)} {E : Nat → TypeId} {e : ME} {b : Nat} {o : AObj} (h : (baseM laid E e).m.get b = some o) : (∃ x ∈ e.l, x.1 = b ∧ x.2 = o) ∨ ∃ x ∈ laid, x.1 = b ∧ o = .row x.2 (E x.1) true := by
  rcases putAllM_get h with h | ⟨_, h⟩
  · exact .inl h
  · exact .inr (laidPT_get E h)
def Ans (P : Program) (gl : Nat) (laid : List (Nat × List AV)) (e : ME) : Prop :=
  wfM gl laid e = true ∧ ∀ (E : Nat → TypeId) (ρ : Ren) (w : World) (xs : Array Value) (R : Ending → World → Prop), Inv ρ (baseM laid E e) w → (∀ g, g < gl → ∃ c, ρ (posOf g) = some ⟨g, 0, c⟩) → VRs ρ e.args xs.toList →
    (∀ (ρ' : Ren) (σr : AHeap) (w' : World) (x : Value), (∀ y ∈ e.l', σr.m.get y.1 = some y.2) → σr.next = e.next' → Inv ρ' σr w' → Stp ρ (baseM laid E e) w ρ' σr w' → VR ρ' e.v x → R (.returned x) w') →
    Calls P e.f xs w R
section
variable {P : Program} {G : Cx} {ρ : Ren} {σ : AHeap} {w : World}
theorem memo_sound {e : ME} (ha : Ans P G.gl G.laid e) {f : Nat} {args : List AV} {xs : Array Value} (hh : hitM G.gl G.laid e f args σ = true) (hi : Inv ρ σ w) (hg : GR ρ G) (hx : VRs ρ args xs.toList)
    {R : Ending → World → Prop} (hR : ∀ (ρ' : Ren) (w' : World) (x : Value), Inv ρ' (layM σ e) w' → Stp ρ σ w ρ' (layM σ e) w' → VR ρ' e.v x → R (.returned x) w') : Calls P f xs w R := by
  unfold hitM at hh
  simp only [ite_cond] at hh
  split at hh
  case isFalse => cases hh
  rename_i hf
  split at hh
  case isFalse => cases hh
  rename_i hargs
  split at hh
  case isFalse => cases hh
  rename_i hnext
  split at hh
  case isFalse => cases hh
  rename_i hlaid
  have ef := Nat.eq_of_beq_eq_true hf
  have ea := beqAs_eq hargs
  have en : σ.next = e.next := Nat.eq_of_beq_eq_true hnext
  subst ef; subst ea
  obtain ⟨hwf, hans⟩ := ha
  have hsub := subL_all hh
  have hlg := laidGo_get G.laid hlaid
  simp only [wfM, Bool.and_eq_true, List.all_eq_true, Nat.ble_eq, Bool.not_eq_true', Bool.or_eq_true, List.any_eq_true] at hwf
  obtain ⟨w1, w2, w3, w4, w5⟩ := hwf
  have hB : ∀ b o, (baseM G.laid (eOf σ) e).m.get b = some o → σ.m.get b = some o := fun b o h => by
    rcases baseM_get h with ⟨x, hx, rfl, rfl⟩ | ⟨x, hx, rfl, rfl⟩
    · exact hsub x hx
    · exact hlg x hx
  have hBw : ∀ b o, (baseM G.laid (eOf σ) e).m.get b = some o → o.ro = false → ∃ x ∈ e.l, x.1 = b := fun b o h hro => by
    rcases baseM_get h with ⟨x, hx, h1, _⟩ | ⟨x, hx, _, rfl⟩
    · exact ⟨x, hx, h1⟩
    · cases hro
  have hWr : ∀ r, Wr ρ (baseM G.laid (eOf σ) e) r → Wr ρ σ r := fun r ⟨b, o, l, h1, h2, h3, h4⟩ => ⟨b, o, l, hB b o h1, h2, h3, h4⟩
  have hiB : Inv ρ (baseM G.laid (eOf σ) e) w := by
    refine ⟨⟨fun b hb => ?_, hi.blk, fun b o l h1 h2 => hi.obj b o l (hB b o h1) h2, fun b b' o o' l l' h1 h2 h3 h4 => hi.inj b b' o o' l l' (hB b o h1) (hB b' o' h2) h3 h4⟩, hi.old.size, hi.old.same, fun r hr h => hi.old.no r hr (hWr r h)⟩
    have hb' : σ.next.num ≤ b.num := by rw [en]; exact hb
    have hfr := hi.fresh b hb'
    refine ⟨hfr.1, ?_⟩
    cases h : (baseM G.laid (eOf σ) e).m.get b with
    | none => rfl
    | some o => rw [hB b o h] at hfr; cases hfr.2
  refine hans (eOf σ) ρ w xs R hiB hg hx fun ρ' σr w' x hl' hn' ir sr hv => ?_
  have hold : ∀ b o, (layM σ e).m.get b = some o → (∃ x ∈ e.l', x.1 = b ∧ x.2 = o ∧ σr.m.get b = some o ∧ o.ro = false) ∨ ((∀ x ∈ e.l, x.1 ≠ b) ∧ σ.m.get b = some o ∧ b < e.next) := fun b o h => by
    rcases putAllM_get h with ⟨x, hx, h1, h2⟩ | ⟨_, h⟩
    · refine .inl ⟨x, hx, h1, h2, ?_, ?_⟩
      · rw [← h1, ← h2]; exact hl' x hx
      · rw [← h2]; exact (w5 x hx).2.2.1
    · obtain ⟨h1, h2⟩ := dropAll_get h
      refine .inr ⟨h1, h2, ?_⟩
      apply Classical.byContradiction
      intro hn
      have := hi.fresh b (by rw [en]; exact Nat.not_lt.1 hn)
      rw [h2] at this
      cases this.2
  have hsame : ∀ b, b < e.next → ρ' b = ρ b := fun b hb => sr.ext b hb
  have hplace : ∀ b o lb, (∀ x ∈ e.l, x.1 ≠ b) → σ.m.get b = some o → ρ b = some lb → ¬ Wr ρ (baseM G.laid (eOf σ) e) lb.blk := fun b o lb h1 h2 h3 ⟨b2, o2, l2, k1, k2, k3, k4⟩ => by
    obtain ⟨x, hx, e2⟩ := hBw b2 o2 k1 k2
    have hne : b ≠ b2 := fun e' => h1 x hx (e2.trans e'.symm)
    have := (hi.inj b b2 o o2 lb l2 h2 (hB b2 o2 k1) h3 k3 k4.symm hne).2
    rw [k2] at this; cases this
  have hle := sr.le hiB
  have hst : Stp ρ σ w ρ' (layM σ e) w' := by
    refine ⟨fun b hb => ?_, ?_, sr.size, fun r hr hnw => sr.frame r hr fun hw => hnw (hWr r hw), fun r hw hr => ?_, sr.tape, sr.os, sr.out⟩
    · exact hsame b (by have : b < σ.next := hb; rw [en] at this; exact this)
    · show σ.next ≤ e.next'
      rw [en]; exact w2
    · obtain ⟨b, o, l, h1, h2, h3, rfl⟩ := hw
      rcases hold b o h1 with ⟨x, _, _, _, hr', hro⟩ | ⟨k1, k2, k3⟩
      · exact hWr _ (sr.wr _ ⟨b, o, l, hr', hro, h3, rfl⟩ hr)
      · rw [hsame b k3] at h3
        exact ⟨b, o, l, k2, h2, h3, rfl⟩
  refine hR ρ' w' x ⟨⟨fun b hb => ?_, ir.blk, fun b o l h1 h2 => ?_, fun b b' o o' l l' h1 h2 h3 h4 he hne => ?_⟩, hi.old.of hst⟩ hst hv
  · have hb' : e.next' ≤ b := hb
    refine ⟨(ir.fresh b (by rw [hn']; exact hb')).1, ?_⟩
    cases h : (layM σ e).m.get b with
    | none => rfl
    | some o =>
      rcases hold b o h with ⟨x, hx, h1, _⟩ | ⟨_, _, h3⟩
      · have := (w5 x hx).2.1
        rw [blt_iff, h1] at this
        exact absurd this (Nat.not_lt.2 hb')
      · exact absurd (Nat.lt_of_lt_of_le h3 w2) (Nat.not_lt.2 hb')
  · rcases hold b o h1 with ⟨x, _, _, _, hr, _⟩ | ⟨k1, k2, k3⟩
    · exact ir.obj b o l hr h2
    · rw [hsame b k3] at h2
      obtain ⟨z, hz, hzr⟩ := hi.obj b o l k2 h2
      exact ⟨z, by rw [sr.frame _ (hi.blk b l h2) (hplace b o l k1 k2 h2)]; exact hz, hzr.mono hle⟩
  · have cross : ∀ (b b' : Nat) (o o' : AObj) (l l' : Loc), σr.m.get b = some o → o.ro = false → (∀ x ∈ e.l, x.1 ≠ b') → σ.m.get b' = some o' → b' < e.next → ρ' b = some l → ρ' b' = some l' → l.blk = l'.blk → False := fun b b' o o' l l' k1 k2 k3 k4 k5 k6 k7 k8 => by
      rw [hsame b' k5] at k7
      have hlt := hi.blk b' l' k7
      have := sr.wr l.blk ⟨b, o, l, k1, k2, k6, rfl⟩ (by rw [k8]; exact hlt)
      rw [k8] at this
      exact hplace b' o' l' k3 k4 k7 this
    rcases hold b o h1 with ⟨x, _, _, _, hr, hro⟩ | ⟨k1, k2, k3⟩
    · rcases hold b' o' h2 with ⟨x', _, _, _, hr', _⟩ | ⟨k1', k2', k3'⟩
      · exact ir.inj b b' o o' l l' hr hr' h3 h4 he hne
      · exact (cross b b' o o' l l' hr hro k1' k2' k3' h3 h4 he).elim
    · rcases hold b' o' h2 with ⟨x', _, _, _, hr', hro'⟩ | ⟨k1', k2', k3'⟩
      · exact (cross b' b o' o l' l hr' hro' k1 k2 k3 h4 h3 he.symm).elim
      · rw [hsame b k3] at h3
        rw [hsame b' k3'] at h4
        exact hi.inj b b' o o' l l' k2 k2' h3 h4 he hne
theorem findM_some {gl : Nat} {laid : List (Nat × List AV)} {f : Nat} {args : List AV} : ∀ {mem : List ME} {e : ME}, findM gl laid mem f args σ = some e → e ∈ mem ∧ hitM gl laid e f args σ = true
  | [], e, h => by cases h
  | y :: mem, e, h => by
    have h' : (bif hitM gl laid y f args σ then some y else findM gl laid mem f args σ) = some e := h
    rw [ite_cond] at h'
    split at h'
    · rename_i hh; cases h'; exact ⟨List.mem_cons_self, hh⟩
    · obtain ⟨h1, h2⟩ := findM_some h'
      exact ⟨List.mem_cons_of_mem _ h1, h2⟩
end
def ktbM (gl : Nat) (laid : List (Nat × List AV)) (mem : List ME) (f : Nat) (args : List AV) (σ : AHeap) : Option (AV × AHeap) :=
  Option.rec (motive := fun _ => Option (AV × AHeap)) none (fun e => some (e.v, layM σ e)) (findM gl laid mem f args σ)
theorem ktbM_ok {P : Program} {gl : Nat} {laid : List (Nat × List AV)} {G : Cx} (hG : G.gl = gl) (hl : G.laid = laid) {mem : List ME} (h : ∀ e ∈ mem, Ans P gl laid e) (f : Nat) (args : List AV) (σ : AHeap) (v : AV) (σ' : AHeap) (hk : ktbM gl laid mem f args σ = some (v, σ'))
    (ρ : Ren) (w : World) (xs : Array Value) (hi : Inv ρ σ w) (hg : GR ρ G) (hx : VRs ρ args xs.toList) : Calls P f xs w fun e w' => ∃ x ρ', e = .returned x ∧ VR ρ' v x ∧ Inv ρ' σ' w' ∧ Stp ρ σ w ρ' σ' w' := by
  subst hG; subst hl
  unfold ktbM at hk
  cases hf : findM G.gl G.laid mem f args σ with
  | none => rw [hf] at hk; cases hk
  | some e =>
    rw [hf] at hk
    cases hk
    obtain ⟨h1, h2⟩ := findM_some hf
    exact memo_sound (h e h1) h2 hi hg hx fun ρ' w' x i s hv => ⟨x, ρ', rfl, hv, i, s⟩
def retOK (r : KR) (e : ME) : Bool :=
  match r with
  | .ret v σ => bif beqV v e.v then (bif Nat.beq σ.next e.next' then subL e.l' σ else false) else false
  | _ => false
def goodM (P : Program) (G : Cx) (fuel : Nat) (E : Nat → TypeId) (e : ME) : Bool := retOK (evalF P G fuel e.f e.args (baseM G.laid E e)) e
theorem ans_of {P : Program} {G : Cx} (hm : P.follows .mixedOrders = true) (hC : CxOK P G) {fuel : Nat} {e : ME} (hw : wfM G.gl G.laid e = true) (h : ∀ E, goodM P G fuel E e = true) : Ans P G.gl G.laid e := by
  refine ⟨hw, fun E ρ w xs R hi hg hx hR => ?_⟩
  have h := h E
  unfold goodM at h
  rw [evalF_eq] at h
  unfold retOK at h
  split at h
  · rename_i v σ hr
    rw [ite_cond] at h
    split at h
    · rename_i hv
      rw [ite_cond] at h
      split at h
      · rename_i hn
        have ev := beqV_eq hv
        subst ev
        exact evalCall_sound hm hC hr hi hg hx fun ρ' w' x i s hv => hR ρ' σ w' x (subL_all h) (Nat.eq_of_beq_eq_true hn) i s hv
      · cases h
    · cases h
  · cases h
end Go.Ev
namespace Go.Ev
end Go.Ev
namespace Go.Ev
variable [Env]
open Go.Proofs
set_option maxRecDepth 4000
set_option maxHeartbeats 8000000
theorem w_Longs {G : Cx} (hG : Plain G) {K : KP}  {l1 l2 : List Int} {v1 v2 : AV} {σ : AHeap} {L : Own} (hst : St σ K L) (h1 : HasS K 1 (RInt) l1 v1) (h2 : HasS K 1 (RInt) l2 v2)
     : EvCall Tryz.prog G 30 [v1, v2] σ fun v σ' => v = .bool (sameX l1 l2) ∧ St σ' K L := by
  refine ev_body hG Tryz.func30 rfl (t := (PT.leaf.put (some (v1)) 0).put (some (v2)) 1) (by rfl) ?_
  refine ev_seq ?_
  refine ev_region rfl ?_
  refine evOps_val rfl (x_assign rfl) rfl ?_
  refine evOps_nil ?_
  refine thenQ_normal ?_
  refine ev_seq ?_
  refine ev_seq ?_
  refine ev_region rfl ?_
  refine evOps_val rfl (x_move rfl) rfl ?_
  refine evOps_val rfl (x_len' h1 rfl rfl rfl (e := 2) (by kernel_rfl) rfl) rfl ?_
  refine evOps_val rfl (x_move rfl) rfl ?_
  refine evOps_val rfl (x_len' h2 rfl rfl rfl (e := 2) (by kernel_rfl) rfl) rfl ?_
  refine evOps_val rfl (x_bin rfl rfl rfl) rfl ?_
  refine evOps_nil ?_
  refine thenQ_normal ?_
  refine ev_cond2 rfl (fun h10 => ?_) (fun h10 => ?_)
  · skip
    refine ev_seq ?_
    refine ev_region rfl ?_
    refine evOps_val rfl (x_assign rfl) rfl ?_
    refine evOps_nil ?_
    refine thenQ_normal ?_
    refine ev_ret ?_
    refine thenQ_ret (?_)
    exact end_ret1 rfl rfl ⟨by first | rw [sameX_len (notB_t h10)] | (rw [sameX_at hx19 hx23 (by simpa only [eqI_same] using notB_t h25)]) | rw [sameX_all (len_of (notB_f h10)) (lt_no h14) hsame], hst⟩
  · skip
    refine ev_skip ?_
    refine thenQ_normal ?_
    refine ev_seq ?_
    refine ev_seq ?_
    refine ev_region rfl ?_
    refine evOps_val rfl (x_assign rfl) rfl ?_
    refine evOps_nil ?_
    refine thenQ_normal ?_
    refine ev_block ?_
    obtain ⟨LL1, hst, hLL1⟩ := hst.named
    refine ev_loopW [4, 5, 11, 12, 13, 14, 15, 16, 17, 18, 19, 20, 21, 22, 23, 24, 25] (fun j t σ => ∃ (i : Nat), j + i = l1.length ∧ (∀ k, k < i → l1[k]? = l2[k]?) ∧ t.get 5 = some (.int .i64 (.ofNat i)) ∧ St σ K LL1) (l1.length) ⟨0, rfl, fun k hk => absurd hk (Nat.not_lt_zero _), rfl, hst⟩ ?_
    clear hst; intro j4 t σ hoff hI; obtain ⟨i, hj, hsame, hv5, hst⟩ := hI
    subst hLL1
    replace hoff := hoff.ex8 rfl rfl; obtain ⟨o4, o5, o11, o12, o13, o14, o15, o16, hoff⟩ := hoff
    replace hoff := hoff.ex8 rfl rfl; obtain ⟨o17, o18, o19, o20, o21, o22, o23, o24, hoff⟩ := hoff
    replace hoff := hoff.ex1 rfl; obtain ⟨o25, hoff⟩ := hoff
    obtain rfl := hoff.nil; clear hoff
    replace hv5 : o5 = some _ := hv5; subst hv5
    refine ev_seq ?_
    refine ev_seq ?_
    refine ev_region rfl ?_
    refine evOps_val rfl (x_move rfl) rfl ?_
    refine evOps_val rfl (x_move rfl) rfl ?_
    refine evOps_val rfl (x_len' h1 rfl rfl rfl (e := 2) (by kernel_rfl) rfl) rfl ?_
    refine evOps_val rfl (x_bin rfl rfl rfl) rfl ?_
    refine evOps_nil ?_
    refine thenQ_normal ?_
    refine ev_cond2 rfl (fun h14 => ?_) (fun h14 => ?_)
    · skip
      refine ev_skip ?_
      refine thenQ_normal ?_
      refine ev_seq ?_
      refine ev_block ?_
      refine ev_seq ?_
      refine ev_region_plan (l := [(0, []), (1, []), (2, []), (3, []), (4, []), (5, []), (6, []), (7, []), (8, [])]) (by kernel_rfl) (by kernel_rfl) ?_
      refine evPlan_val rfl rfl (x_move rfl) rfl ?_
      refine evPlan_val rfl rfl (x_move rfl) rfl ?_
      obtain ⟨x19, hx19, hi19⟩ := at_lt h14
      refine p_idx (e := 2) (m := 1) h1 hx19 rfl rfl rfl (by kernel_rfl) (by kernel_rfl) rfl rfl (fun _ => rfl) (fun p19 vs19 hp19 hl19 hr19 => ?_)
      obtain rfl := hr19
      refine evPlan_val rfl rfl (x_pload1 hst hp19 rfl (by kernel_rfl) rfl) rfl ?_
      refine evPlan_val rfl rfl (x_move rfl) rfl ?_
      refine evPlan_val rfl rfl (x_move rfl) rfl ?_
      obtain ⟨x23, hx23⟩ := at_of (show _ < l2.length from by rw [← len_of (notB_f h10)]; exact hi19)
      refine p_idx (e := 2) (m := 1) h2 hx23 rfl rfl rfl (by kernel_rfl) (by kernel_rfl) rfl rfl (fun _ => rfl) (fun p23 vs23 hp23 hl23 hr23 => ?_)
      obtain rfl := hr23
      refine evPlan_val rfl rfl (x_pload1 hst hp23 rfl (by kernel_rfl) rfl) rfl ?_
      refine evPlan_val rfl rfl (x_bin rfl rfl rfl) rfl ?_
      refine evPlan_nil ?_
      refine thenQ_normal ?_
      refine ev_cond2 rfl (fun h25 => ?_) (fun h25 => ?_)
      · skip
        refine ev_seq ?_
        refine ev_region rfl ?_
        refine evOps_val rfl (x_assign rfl) rfl ?_
        refine evOps_nil ?_
        refine thenQ_normal ?_
        refine ev_ret ?_
        refine blockQ_ret (thenQ_ret (loopQ_ret (blockQ_ret (thenQ_ret (?_)))))
        exact end_ret1 rfl rfl ⟨by first | rw [sameX_len (notB_t h10)] | (rw [sameX_at hx19 hx23 (by simpa only [eqI_same] using notB_t h25)]) | rw [sameX_all (len_of (notB_f h10)) (lt_no h14) hsame], hst⟩
      · skip
        refine ev_skip ?_
        refine blockQ_normal ?_
        refine thenQ_normal ?_
        refine ev_region rfl ?_
        refine evOps_val rfl (x_move rfl) rfl ?_
        refine evOps_val rfl (x_bin rfl rfl rfl) rfl ?_
        refine evOps_val rfl (x_assign rfl) rfl ?_
        refine evOps_nil ?_
        refine loopQ_normal ⟨j4 - 1, by omega, (by (iterate 33 refine OffW.put rfl ?_); exact OffW.refl _ _), i + 1, by omega, same_step hsame hx19 hx23 (by simpa only [eqI_same] using notB_f h25), congrArg (fun z => some (AV.int .i64 z)) (wr_succ (by have := h1.len_le; omega)), hst⟩
    · skip
      refine ev_exit ?_
      refine thenQ_exit ?_
      refine loopQ_exit ?_
      refine blockQ_exit ?_
      refine thenQ_normal ?_
      refine ev_seq ?_
      refine ev_region rfl ?_
      refine evOps_val rfl (x_assign rfl) rfl ?_
      refine evOps_nil ?_
      refine thenQ_normal ?_
      refine ev_ret ?_
      exact end_ret1 rfl rfl ⟨by first | rw [sameX_len (notB_t h10)] | (rw [sameX_at hx19 hx23 (by simpa only [eqI_same] using notB_t h25)]) | rw [sameX_all (len_of (notB_f h10)) (lt_no h14) hsame], hst⟩
theorem w_Events {G : Cx} (hG : Plain G) {K : KP}  {l1 l2 : List XEv} {v1 v2 : AV} {σ : AHeap} {L : Own} (hst : St σ K L) (h1 : HasS K 5 (REv) l1 v1) (h2 : HasS K 5 (REv) l2 v2)
     : EvCall Tryz.prog G 31 [v1, v2] σ fun v σ' => v = .bool (sameX l1 l2) ∧ St σ' K L := by
  refine ev_body hG Tryz.func31 rfl (t := (PT.leaf.put (some (v1)) 0).put (some (v2)) 1) (by rfl) ?_
  refine ev_seq ?_
  refine ev_region rfl ?_
  refine evOps_val rfl (x_assign rfl) rfl ?_
  refine evOps_nil ?_
  refine thenQ_normal ?_
  refine ev_seq ?_
  refine ev_seq ?_
  refine ev_region rfl ?_
  refine evOps_val rfl (x_move rfl) rfl ?_
  refine evOps_val rfl (x_len' h1 rfl rfl rfl (e := 78) (by kernel_rfl) rfl) rfl ?_
  refine evOps_val rfl (x_move rfl) rfl ?_
  refine evOps_val rfl (x_len' h2 rfl rfl rfl (e := 78) (by kernel_rfl) rfl) rfl ?_
  refine evOps_val rfl (x_bin rfl rfl rfl) rfl ?_
  refine evOps_nil ?_
  refine thenQ_normal ?_
  refine ev_cond2 rfl (fun h10 => ?_) (fun h10 => ?_)
  · skip
    refine ev_seq ?_
    refine ev_region rfl ?_
    refine evOps_val rfl (x_assign rfl) rfl ?_
    refine evOps_nil ?_
    refine thenQ_normal ?_
    refine ev_ret ?_
    refine thenQ_ret (?_)
    exact end_ret1 rfl rfl ⟨by first | rw [sameX_len (notB_t h10)] | (rw [sameX_at hx19 hx23 (by exact (XEv.same (x := x19) (y := x23)).symm.trans (notB_t h25))]) | rw [sameX_all (len_of (notB_f h10)) (lt_no h14) hsame], hst⟩
  · skip
    refine ev_skip ?_
    refine thenQ_normal ?_
    refine ev_seq ?_
    refine ev_seq ?_
    refine ev_region rfl ?_
    refine evOps_val rfl (x_assign rfl) rfl ?_
    refine evOps_nil ?_
    refine thenQ_normal ?_
    refine ev_block ?_
    obtain ⟨LL1, hst, hLL1⟩ := hst.named
    refine ev_loopW [4, 5, 11, 12, 13, 14, 15, 16, 17, 18, 19, 20, 21, 22, 23, 24, 25] (fun j t σ => ∃ (i : Nat), j + i = l1.length ∧ (∀ k, k < i → l1[k]? = l2[k]?) ∧ t.get 5 = some (.int .i64 (.ofNat i)) ∧ St σ K LL1) (l1.length) ⟨0, rfl, fun k hk => absurd hk (Nat.not_lt_zero _), rfl, hst⟩ ?_
    clear hst; intro j4 t σ hoff hI; obtain ⟨i, hj, hsame, hv5, hst⟩ := hI
    subst hLL1
    replace hoff := hoff.ex8 rfl rfl; obtain ⟨o4, o5, o11, o12, o13, o14, o15, o16, hoff⟩ := hoff
    replace hoff := hoff.ex8 rfl rfl; obtain ⟨o17, o18, o19, o20, o21, o22, o23, o24, hoff⟩ := hoff
    replace hoff := hoff.ex1 rfl; obtain ⟨o25, hoff⟩ := hoff
    obtain rfl := hoff.nil; clear hoff
    replace hv5 : o5 = some _ := hv5; subst hv5
    refine ev_seq ?_
    refine ev_seq ?_
    refine ev_region rfl ?_
    refine evOps_val rfl (x_move rfl) rfl ?_
    refine evOps_val rfl (x_move rfl) rfl ?_
    refine evOps_val rfl (x_len' h1 rfl rfl rfl (e := 78) (by kernel_rfl) rfl) rfl ?_
    refine evOps_val rfl (x_bin rfl rfl rfl) rfl ?_
    refine evOps_nil ?_
    refine thenQ_normal ?_
    refine ev_cond2 rfl (fun h14 => ?_) (fun h14 => ?_)
    · skip
      refine ev_skip ?_
      refine thenQ_normal ?_
      refine ev_seq ?_
      refine ev_block ?_
      refine ev_seq ?_
      refine ev_region_plan (l := [(0, []), (1, []), (2, []), (3, []), (4, []), (5, []), (6, []), (7, []), (8, [])]) (by kernel_rfl) (by kernel_rfl) ?_
      refine evPlan_val rfl rfl (x_move rfl) rfl ?_
      refine evPlan_val rfl rfl (x_move rfl) rfl ?_
      obtain ⟨x19, hx19, hi19⟩ := at_lt h14
      refine p_idx (e := 78) (m := 5) h1 hx19 rfl rfl rfl (by kernel_rfl) (by kernel_rfl) rfl rfl (fun _ => rfl) (fun p19 vs19 hp19 hl19 hr19 => ?_)
      obtain rfl := hr19
      refine evPlan_val rfl rfl (x_ploadW hst hp19 rfl (by kernel_rfl) rfl) rfl ?_
      refine evPlan_val rfl rfl (x_move rfl) rfl ?_
      refine evPlan_val rfl rfl (x_move rfl) rfl ?_
      obtain ⟨x23, hx23⟩ := at_of (show _ < l2.length from by rw [← len_of (notB_f h10)]; exact hi19)
      refine p_idx (e := 78) (m := 5) h2 hx23 rfl rfl rfl (by kernel_rfl) (by kernel_rfl) rfl rfl (fun _ => rfl) (fun p23 vs23 hp23 hl23 hr23 => ?_)
      obtain rfl := hr23
      refine evPlan_val rfl rfl (x_ploadW hst hp23 rfl (by kernel_rfl) rfl) rfl ?_
      refine evPlan_val rfl rfl (x_neS (n := 5) (ca := [_, _, _, _, _]) (cb := [_, _, _, _, _]) (by kernel_rfl) rfl rfl rfl rfl) rfl ?_
      refine evPlan_nil ?_
      refine thenQ_normal ?_
      refine ev_cond2 rfl (fun h25 => ?_) (fun h25 => ?_)
      · skip
        refine ev_seq ?_
        refine ev_region rfl ?_
        refine evOps_val rfl (x_assign rfl) rfl ?_
        refine evOps_nil ?_
        refine thenQ_normal ?_
        refine ev_ret ?_
        refine blockQ_ret (thenQ_ret (loopQ_ret (blockQ_ret (thenQ_ret (?_)))))
        exact end_ret1 rfl rfl ⟨by first | rw [sameX_len (notB_t h10)] | (rw [sameX_at hx19 hx23 (by exact (XEv.same (x := x19) (y := x23)).symm.trans (notB_t h25))]) | rw [sameX_all (len_of (notB_f h10)) (lt_no h14) hsame], hst⟩
      · skip
        refine ev_skip ?_
        refine blockQ_normal ?_
        refine thenQ_normal ?_
        refine ev_region rfl ?_
        refine evOps_val rfl (x_move rfl) rfl ?_
        refine evOps_val rfl (x_bin rfl rfl rfl) rfl ?_
        refine evOps_val rfl (x_assign rfl) rfl ?_
        refine evOps_nil ?_
        refine loopQ_normal ⟨j4 - 1, by omega, (by (iterate 33 refine OffW.put rfl ?_); exact OffW.refl _ _), i + 1, by omega, same_step hsame hx19 hx23 (by exact (XEv.same (x := x19) (y := x23)).symm.trans (notB_f h25)), congrArg (fun z => some (AV.int .i64 z)) (wr_succ (by have := h1.len_le; omega)), hst⟩
    · skip
      refine ev_exit ?_
      refine thenQ_exit ?_
      refine loopQ_exit ?_
      refine blockQ_exit ?_
      refine thenQ_normal ?_
      refine ev_seq ?_
      refine ev_region rfl ?_
      refine evOps_val rfl (x_assign rfl) rfl ?_
      refine evOps_nil ?_
      refine thenQ_normal ?_
      refine ev_ret ?_
      exact end_ret1 rfl rfl ⟨by first | rw [sameX_len (notB_t h10)] | (rw [sameX_at hx19 hx23 (by exact (XEv.same (x := x19) (y := x23)).symm.trans (notB_t h25))]) | rw [sameX_all (len_of (notB_f h10)) (lt_no h14) hsame], hst⟩
theorem w_Ids {G : Cx} (hG : Plain G) {K : KP}  {l1 l2 : List XId} {v1 v2 : AV} {σ : AHeap} {L : Own} (hst : St σ K L) (h1 : HasS K 2 (RId) l1 v1) (h2 : HasS K 2 (RId) l2 v2)
     : EvCall Tryz.prog G 32 [v1, v2] σ fun v σ' => v = .bool (sameX l1 l2) ∧ St σ' K L := by
  refine ev_body hG Tryz.func32 rfl (t := (PT.leaf.put (some (v1)) 0).put (some (v2)) 1) (by rfl) ?_
  refine ev_seq ?_
  refine ev_region rfl ?_
  refine evOps_val rfl (x_assign rfl) rfl ?_
  refine evOps_nil ?_
  refine thenQ_normal ?_
  refine ev_seq ?_
  refine ev_seq ?_
  refine ev_region rfl ?_
  refine evOps_val rfl (x_move rfl) rfl ?_
  refine evOps_val rfl (x_len' h1 rfl rfl rfl (e := 81) (by kernel_rfl) rfl) rfl ?_
  refine evOps_val rfl (x_move rfl) rfl ?_
  refine evOps_val rfl (x_len' h2 rfl rfl rfl (e := 81) (by kernel_rfl) rfl) rfl ?_
  refine evOps_val rfl (x_bin rfl rfl rfl) rfl ?_
  refine evOps_nil ?_
  refine thenQ_normal ?_
  refine ev_cond2 rfl (fun h10 => ?_) (fun h10 => ?_)
  · skip
    refine ev_seq ?_
    refine ev_region rfl ?_
    refine evOps_val rfl (x_assign rfl) rfl ?_
    refine evOps_nil ?_
    refine thenQ_normal ?_
    refine ev_ret ?_
    refine thenQ_ret (?_)
    exact end_ret1 rfl rfl ⟨by first | rw [sameX_len (notB_t h10)] | (rw [sameX_at hx19 hx23 (by exact (XId.same (x := x19) (y := x23)).symm.trans (notB_t h25))]) | rw [sameX_all (len_of (notB_f h10)) (lt_no h14) hsame], hst⟩
  · skip
    refine ev_skip ?_
    refine thenQ_normal ?_
    refine ev_seq ?_
    refine ev_seq ?_
    refine ev_region rfl ?_
    refine evOps_val rfl (x_assign rfl) rfl ?_
    refine evOps_nil ?_
    refine thenQ_normal ?_
    refine ev_block ?_
    obtain ⟨LL1, hst, hLL1⟩ := hst.named
    refine ev_loopW [4, 5, 11, 12, 13, 14, 15, 16, 17, 18, 19, 20, 21, 22, 23, 24, 25] (fun j t σ => ∃ (i : Nat), j + i = l1.length ∧ (∀ k, k < i → l1[k]? = l2[k]?) ∧ t.get 5 = some (.int .i64 (.ofNat i)) ∧ St σ K LL1) (l1.length) ⟨0, rfl, fun k hk => absurd hk (Nat.not_lt_zero _), rfl, hst⟩ ?_
    clear hst; intro j4 t σ hoff hI; obtain ⟨i, hj, hsame, hv5, hst⟩ := hI
    subst hLL1
    replace hoff := hoff.ex8 rfl rfl; obtain ⟨o4, o5, o11, o12, o13, o14, o15, o16, hoff⟩ := hoff
    replace hoff := hoff.ex8 rfl rfl; obtain ⟨o17, o18, o19, o20, o21, o22, o23, o24, hoff⟩ := hoff
    replace hoff := hoff.ex1 rfl; obtain ⟨o25, hoff⟩ := hoff
    obtain rfl := hoff.nil; clear hoff
    replace hv5 : o5 = some _ := hv5; subst hv5
    refine ev_seq ?_
    refine ev_seq ?_
    refine ev_region rfl ?_
    refine evOps_val rfl (x_move rfl) rfl ?_
    refine evOps_val rfl (x_move rfl) rfl ?_
    refine evOps_val rfl (x_len' h1 rfl rfl rfl (e := 81) (by kernel_rfl) rfl) rfl ?_
    refine evOps_val rfl (x_bin rfl rfl rfl) rfl ?_
    refine evOps_nil ?_
    refine thenQ_normal ?_
    refine ev_cond2 rfl (fun h14 => ?_) (fun h14 => ?_)
    · skip
      refine ev_skip ?_
      refine thenQ_normal ?_
      refine ev_seq ?_
      refine ev_block ?_
      refine ev_seq ?_
      refine ev_region_plan (l := [(0, []), (1, []), (2, []), (3, []), (4, []), (5, []), (6, []), (7, []), (8, [])]) (by kernel_rfl) (by kernel_rfl) ?_
      refine evPlan_val rfl rfl (x_move rfl) rfl ?_
      refine evPlan_val rfl rfl (x_move rfl) rfl ?_
      obtain ⟨x19, hx19, hi19⟩ := at_lt h14
      refine p_idx (e := 81) (m := 2) h1 hx19 rfl rfl rfl (by kernel_rfl) (by kernel_rfl) rfl rfl (fun _ => rfl) (fun p19 vs19 hp19 hl19 hr19 => ?_)
      obtain rfl := hr19
      refine evPlan_val rfl rfl (x_ploadW hst hp19 rfl (by kernel_rfl) rfl) rfl ?_
      refine evPlan_val rfl rfl (x_move rfl) rfl ?_
      refine evPlan_val rfl rfl (x_move rfl) rfl ?_
      obtain ⟨x23, hx23⟩ := at_of (show _ < l2.length from by rw [← len_of (notB_f h10)]; exact hi19)
      refine p_idx (e := 81) (m := 2) h2 hx23 rfl rfl rfl (by kernel_rfl) (by kernel_rfl) rfl rfl (fun _ => rfl) (fun p23 vs23 hp23 hl23 hr23 => ?_)
      obtain rfl := hr23
      refine evPlan_val rfl rfl (x_ploadW hst hp23 rfl (by kernel_rfl) rfl) rfl ?_
      refine evPlan_val rfl rfl (x_neS (n := 2) (ca := [_, _]) (cb := [_, _]) (by kernel_rfl) rfl rfl rfl rfl) rfl ?_
      refine evPlan_nil ?_
      refine thenQ_normal ?_
      refine ev_cond2 rfl (fun h25 => ?_) (fun h25 => ?_)
      · skip
        refine ev_seq ?_
        refine ev_region rfl ?_
        refine evOps_val rfl (x_assign rfl) rfl ?_
        refine evOps_nil ?_
        refine thenQ_normal ?_
        refine ev_ret ?_
        refine blockQ_ret (thenQ_ret (loopQ_ret (blockQ_ret (thenQ_ret (?_)))))
        exact end_ret1 rfl rfl ⟨by first | rw [sameX_len (notB_t h10)] | (rw [sameX_at hx19 hx23 (by exact (XId.same (x := x19) (y := x23)).symm.trans (notB_t h25))]) | rw [sameX_all (len_of (notB_f h10)) (lt_no h14) hsame], hst⟩
      · skip
        refine ev_skip ?_
        refine blockQ_normal ?_
        refine thenQ_normal ?_
        refine ev_region rfl ?_
        refine evOps_val rfl (x_move rfl) rfl ?_
        refine evOps_val rfl (x_bin rfl rfl rfl) rfl ?_
        refine evOps_val rfl (x_assign rfl) rfl ?_
        refine evOps_nil ?_
        refine loopQ_normal ⟨j4 - 1, by omega, (by (iterate 33 refine OffW.put rfl ?_); exact OffW.refl _ _), i + 1, by omega, same_step hsame hx19 hx23 (by exact (XId.same (x := x19) (y := x23)).symm.trans (notB_f h25)), congrArg (fun z => some (AV.int .i64 z)) (wr_succ (by have := h1.len_le; omega)), hst⟩
    · skip
      refine ev_exit ?_
      refine thenQ_exit ?_
      refine loopQ_exit ?_
      refine blockQ_exit ?_
      refine thenQ_normal ?_
      refine ev_seq ?_
      refine ev_region rfl ?_
      refine evOps_val rfl (x_assign rfl) rfl ?_
      refine evOps_nil ?_
      refine thenQ_normal ?_
      refine ev_ret ?_
      exact end_ret1 rfl rfl ⟨by first | rw [sameX_len (notB_t h10)] | (rw [sameX_at hx19 hx23 (by exact (XId.same (x := x19) (y := x23)).symm.trans (notB_t h25))]) | rw [sameX_all (len_of (notB_f h10)) (lt_no h14) hsame], hst⟩
theorem w_Graph {G : Cx} (hG : Plain G) {K : KP} {g1 g2 : XG} {a1 b1 c1 d1 a2 b2 c2 d2 : AV} {σ : AHeap} {L : Own} (hst : St σ K L) (h1 : HasG K g1 a1 b1 c1 d1) (h2 : HasG K g2 a2 b2 c2 d2) :
    EvCall Tryz.prog G 14 [.agg [a1, b1, c1, d1], .agg [a2, b2, c2, d2]] σ fun v σ' => v = .bool (sameX g1 g2) ∧ St σ' K L := by
  obtain ⟨hi1, ht1, hf1, ho1⟩ := h1
  obtain ⟨hi2, ht2, hf2, ho2⟩ := h2
  refine ev_body hG Tryz.func14 rfl (t := (PT.leaf.put (some (.agg [a1, b1, c1, d1])) 0).put (some (.agg [a2, b2, c2, d2])) 1) (by rfl) ?_
  refine ev_seq ?_
  refine ev_region rfl ?_
  refine o_ptr hst rfl (x_box rfl rfl) (fun _ => rfl) (fun σ b1 hst => ?_)
  refine o_ptr hst rfl (x_box rfl rfl) (fun _ => rfl) (fun σ b2 hst => ?_)
  refine evOps_val rfl (x_assign rfl) rfl ?_
  refine evOps_nil ?_
  refine thenQ_normal ?_
  refine ev_seq ?_
  refine ev_seq ?_
  refine ev_region rfl ?_
  refine evOps_val rfl (x_field rfl (k := 0) (by kernel_rfl)) rfl ?_
  refine evOps_val rfl (x_load1 rfl (hst.get 1 rfl) (by kernel_rfl) rfl) rfl ?_
  refine evOps_val rfl (x_field rfl (k := 0) (by kernel_rfl)) rfl ?_
  refine evOps_val rfl (x_load1 rfl (hst.get 0 rfl) (by kernel_rfl) rfl) rfl ?_
  refine o_callV rfl (x_call rfl rfl rfl (by kernel_rfl)) (fun _ => rfl) (w_Longs hG hst hi1 hi2) (fun σ hst => ?_)
  refine evOps_val rfl (x_not rfl) rfl ?_
  refine o_split rfl (x_move rfl) (fun _ => rfl) (fun h14 => ?_) (fun h14 => ?_)
  · skip
    refine evOps_unwanted rfl rfl ?_
    refine evOps_unwanted rfl rfl ?_
    refine evOps_unwanted rfl rfl ?_
    refine evOps_unwanted rfl rfl ?_
    refine evOps_unwanted rfl rfl ?_
    refine evOps_unwanted rfl rfl ?_
    refine evOps_unwanted rfl rfl ?_
    refine evOps_val rfl (x_pick rfl rfl) rfl ?_
    refine evOps_val rfl (x_move rfl) rfl ?_
    refine evOps_unwanted rfl rfl ?_
    refine evOps_unwanted rfl rfl ?_
    refine evOps_unwanted rfl rfl ?_
    refine evOps_unwanted rfl rfl ?_
    refine evOps_unwanted rfl rfl ?_
    refine evOps_unwanted rfl rfl ?_
    refine evOps_unwanted rfl rfl ?_
    refine evOps_val rfl (x_pick rfl rfl) rfl ?_
    refine evOps_val rfl (x_move rfl) rfl ?_
    refine evOps_unwanted rfl rfl ?_
    refine evOps_unwanted rfl rfl ?_
    refine evOps_unwanted rfl rfl ?_
    refine evOps_unwanted rfl rfl ?_
    refine evOps_unwanted rfl rfl ?_
    refine evOps_unwanted rfl rfl ?_
    refine evOps_unwanted rfl rfl ?_
    refine evOps_val rfl (x_pick rfl rfl) rfl ?_
    refine evOps_nil ?_
    refine thenQ_normal ?_
    refine ev_cond_true rfl ?_
    refine ev_seq ?_
    refine ev_region rfl ?_
    refine evOps_val rfl (x_assign rfl) rfl ?_
    refine evOps_nil ?_
    refine thenQ_normal ?_
    refine ev_ret ?_
    refine thenQ_ret (?_)
    exact end_ret1 rfl rfl ⟨congrArg AV.bool (by have e0 : sameX g1.init g2.init = false := (by simpa using h14); rw [sameX_G]; simp only [e0, Bool.and_true, Bool.true_and, Bool.and_false, Bool.false_and]), hst.pop.pop⟩
  · skip
    refine evOps_val rfl (x_field rfl (k := 1) (by kernel_rfl)) rfl ?_
    refine evOps_val rfl (x_load1 rfl (hst.get 1 rfl) (by kernel_rfl) rfl) rfl ?_
    refine evOps_val rfl (x_len' ht1 rfl rfl rfl (e := 70) (by kernel_rfl) rfl) rfl ?_
    refine evOps_val rfl (x_field rfl (k := 1) (by kernel_rfl)) rfl ?_
    refine evOps_val rfl (x_load1 rfl (hst.get 0 rfl) (by kernel_rfl) rfl) rfl ?_
    refine evOps_val rfl (x_len' ht2 rfl rfl rfl (e := 70) (by kernel_rfl) rfl) rfl ?_
    refine evOps_val rfl (x_bin rfl rfl rfl) rfl ?_
    refine evOps_val rfl (x_pick rfl rfl) rfl ?_
    refine o_split rfl (x_move rfl) (fun _ => rfl) (fun h23 => ?_) (fun h23 => ?_)
    · skip
      refine evOps_unwanted rfl rfl ?_
      refine evOps_unwanted rfl rfl ?_
      refine evOps_unwanted rfl rfl ?_
      refine evOps_unwanted rfl rfl ?_
      refine evOps_unwanted rfl rfl ?_
      refine evOps_unwanted rfl rfl ?_
      refine evOps_unwanted rfl rfl ?_
      refine evOps_val rfl (x_pick rfl rfl) rfl ?_
      refine evOps_val rfl (x_move rfl) rfl ?_
      refine evOps_unwanted rfl rfl ?_
      refine evOps_unwanted rfl rfl ?_
      refine evOps_unwanted rfl rfl ?_
      refine evOps_unwanted rfl rfl ?_
      refine evOps_unwanted rfl rfl ?_
      refine evOps_unwanted rfl rfl ?_
      refine evOps_unwanted rfl rfl ?_
      refine evOps_val rfl (x_pick rfl rfl) rfl ?_
      refine evOps_nil ?_
      refine thenQ_normal ?_
      refine ev_cond_true rfl ?_
      refine ev_seq ?_
      refine ev_region rfl ?_
      refine evOps_val rfl (x_assign rfl) rfl ?_
      refine evOps_nil ?_
      refine thenQ_normal ?_
      refine ev_ret ?_
      refine thenQ_ret (?_)
      exact end_ret1 rfl rfl ⟨congrArg AV.bool (by have e0 : sameX g1.init g2.init = true := (by simpa using h14); have e1 := sameX_len (notB_t h23); rw [sameX_G]; simp only [e0, e1, Bool.and_true, Bool.true_and, Bool.and_false, Bool.false_and]), hst.pop.pop⟩
    · skip
      refine evOps_val rfl (x_field rfl (k := 2) (by kernel_rfl)) rfl ?_
      refine evOps_val rfl (x_load1 rfl (hst.get 1 rfl) (by kernel_rfl) rfl) rfl ?_
      refine evOps_val rfl (x_len' hf1 rfl rfl rfl (e := 71) (by kernel_rfl) rfl) rfl ?_
      refine evOps_val rfl (x_field rfl (k := 2) (by kernel_rfl)) rfl ?_
      refine evOps_val rfl (x_load1 rfl (hst.get 0 rfl) (by kernel_rfl) rfl) rfl ?_
      refine evOps_val rfl (x_len' hf2 rfl rfl rfl (e := 71) (by kernel_rfl) rfl) rfl ?_
      refine evOps_val rfl (x_bin rfl rfl rfl) rfl ?_
      refine evOps_val rfl (x_pick rfl rfl) rfl ?_
      refine o_split rfl (x_move rfl) (fun _ => rfl) (fun h32 => ?_) (fun h32 => ?_)
      · skip
        refine evOps_unwanted rfl rfl ?_
        refine evOps_unwanted rfl rfl ?_
        refine evOps_unwanted rfl rfl ?_
        refine evOps_unwanted rfl rfl ?_
        refine evOps_unwanted rfl rfl ?_
        refine evOps_unwanted rfl rfl ?_
        refine evOps_unwanted rfl rfl ?_
        refine evOps_val rfl (x_pick rfl rfl) rfl ?_
        refine evOps_nil ?_
        refine thenQ_normal ?_
        refine ev_cond_true rfl ?_
        refine ev_seq ?_
        refine ev_region rfl ?_
        refine evOps_val rfl (x_assign rfl) rfl ?_
        refine evOps_nil ?_
        refine thenQ_normal ?_
        refine ev_ret ?_
        refine thenQ_ret (?_)
        exact end_ret1 rfl rfl ⟨congrArg AV.bool (by have e0 : sameX g1.init g2.init = true := (by simpa using h14); have e2 := sameX_len (notB_t h32); rw [sameX_G]; simp only [e0, e2, Bool.and_true, Bool.true_and, Bool.and_false, Bool.false_and]), hst.pop.pop⟩
      · skip
        refine evOps_val rfl (x_field rfl (k := 3) (by kernel_rfl)) rfl ?_
        refine evOps_val rfl (x_load1 rfl (hst.get 1 rfl) (by kernel_rfl) rfl) rfl ?_
        refine evOps_val rfl (x_len' ho1 rfl rfl rfl (e := 71) (by kernel_rfl) rfl) rfl ?_
        refine evOps_val rfl (x_field rfl (k := 3) (by kernel_rfl)) rfl ?_
        refine evOps_val rfl (x_load1 rfl (hst.get 0 rfl) (by kernel_rfl) rfl) rfl ?_
        refine evOps_val rfl (x_len' ho2 rfl rfl rfl (e := 71) (by kernel_rfl) rfl) rfl ?_
        refine evOps_val rfl (x_bin rfl rfl rfl) rfl ?_
        refine evOps_val rfl (x_pick rfl rfl) rfl ?_
        refine evOps_nil ?_
        refine thenQ_normal ?_
        refine ev_cond2 rfl (fun h40 => ?_) (fun h40 => ?_)
        · skip
          refine ev_seq ?_
          refine ev_region rfl ?_
          refine evOps_val rfl (x_assign rfl) rfl ?_
          refine evOps_nil ?_
          refine thenQ_normal ?_
          refine ev_ret ?_
          refine thenQ_ret (?_)
          exact end_ret1 rfl rfl ⟨congrArg AV.bool (by have e0 : sameX g1.init g2.init = true := (by simpa using h14); have e3 := sameX_len (notB_t h40); rw [sameX_G]; simp only [e0, e3, Bool.and_true, Bool.true_and, Bool.and_false, Bool.false_and]), hst.pop.pop⟩
        · skip
          refine ev_skip ?_
          refine thenQ_normal ?_
          refine ev_seq ?_
          refine ev_seq ?_
          refine ev_region rfl ?_
          refine evOps_val rfl (x_assign rfl) rfl ?_
          refine evOps_nil ?_
          refine thenQ_normal ?_
          refine ev_block ?_
          obtain ⟨LL1, hst, hLL1⟩ := hst.named
          refine ev_loopW [4, 5, 41, 42, 43, 44, 45, 46, 47, 48, 49, 50, 51, 52, 53, 54, 55, 56, 57, 58, 59] (fun j t σ => ∃ (i : Nat), j + i = g1.threads.length ∧ (∀ k, k < i → g1.threads[k]? = g2.threads[k]?) ∧ t.get 5 = some (.int .i64 (.ofNat i)) ∧ St σ K LL1) (g1.threads.length) ⟨0, rfl, fun k hk => absurd hk (Nat.not_lt_zero _), rfl, hst⟩ ?_
          clear hst; intro j4 t σ hoff hI; obtain ⟨i, hj4, hs4, hv5, hst⟩ := hI
          subst hLL1
          replace hoff := hoff.ex8 rfl rfl; obtain ⟨o4, o5, o41, o42, o43, o44, o45, o46, hoff⟩ := hoff
          replace hoff := hoff.ex8 rfl rfl; obtain ⟨o47, o48, o49, o50, o51, o52, o53, o54, hoff⟩ := hoff
          replace hoff := hoff.ex4 rfl; obtain ⟨o55, o56, o57, o58, hoff⟩ := hoff
          replace hoff := hoff.ex1 rfl; obtain ⟨o59, hoff⟩ := hoff
          obtain rfl := hoff.nil; clear hoff
          replace hv5 : o5 = some _ := hv5; subst hv5
          refine ev_seq ?_
          refine ev_seq ?_
          refine ev_region rfl ?_
          refine evOps_val rfl (x_move rfl) rfl ?_
          refine evOps_val rfl (x_field rfl (k := 1) (by kernel_rfl)) rfl ?_
          refine evOps_val rfl (x_load1 rfl (hst.get 1 rfl) (by kernel_rfl) rfl) rfl ?_
          refine evOps_val rfl (x_len' ht1 rfl rfl rfl (e := 70) (by kernel_rfl) rfl) rfl ?_
          refine evOps_val rfl (x_bin rfl rfl rfl) rfl ?_
          refine evOps_nil ?_
          refine thenQ_normal ?_
          refine ev_cond2 rfl (fun h45 => ?_) (fun h45 => ?_)
          · skip
            refine ev_skip ?_
            refine thenQ_normal ?_
            refine ev_seq ?_
            refine ev_block ?_
            refine ev_seq ?_
            refine ev_region_plan (l := [(0, []), (1, []), (2, []), (3, []), (4, []), (5, []), (6, []), (7, []), (8, []), (9, []), (10, []), (11, [])]) (by kernel_rfl) (by kernel_rfl) ?_
            refine evPlan_val rfl rfl (x_field rfl (k := 1) (by kernel_rfl)) rfl ?_
            refine evPlan_val rfl rfl (x_load1 rfl (hst.get 1 rfl) (by kernel_rfl) rfl) rfl ?_
            refine evPlan_val rfl rfl (x_move rfl) rfl ?_
            obtain ⟨x51, hx51, hi51⟩ := at_lt h45
            refine p_idx (e := 70) (m := 1) ht1 hx51 rfl rfl rfl (by kernel_rfl) (by kernel_rfl) rfl rfl (fun _ => rfl) (fun p51 vs51 hp51 hl51 hr51 => ?_)
            have hr51' := hr51; obtain ⟨v51, rfl, hk51⟩ := hr51'
            refine evPlan_val rfl rfl (x_pload1 hst hp51 rfl (by kernel_rfl) rfl) rfl ?_
            refine evPlan_val rfl rfl (x_field rfl (k := 1) (by kernel_rfl)) rfl ?_
            refine evPlan_val rfl rfl (x_load1 rfl (hst.get 0 rfl) (by kernel_rfl) rfl) rfl ?_
            refine evPlan_val rfl rfl (x_move rfl) rfl ?_
            obtain ⟨x56, hx56⟩ := at_of (show _ < g2.threads.length from by rw [← len_of (notB_f h23)]; exact hi51)
            refine p_idx (e := 70) (m := 1) ht2 hx56 rfl rfl rfl (by kernel_rfl) (by kernel_rfl) rfl rfl (fun _ => rfl) (fun p56 vs56 hp56 hl56 hr56 => ?_)
            have hr56' := hr56; obtain ⟨v56, rfl, hk56⟩ := hr56'
            refine evPlan_val rfl rfl (x_pload1 hst hp56 rfl (by kernel_rfl) rfl) rfl ?_
            refine p_callV rfl rfl (x_call rfl rfl rfl (by kernel_rfl)) (fun _ => rfl) (w_Events hG hst hk51 hk56) (fun σ hst => ?_)
            refine ⟨still_nil, ?_⟩
            refine evPlan_val rfl rfl (x_not rfl) rfl ?_
            refine evPlan_nil ?_
            refine thenQ_normal ?_
            refine ev_cond2 rfl (fun h59 => ?_) (fun h59 => ?_)
            · skip
              refine ev_seq ?_
              refine ev_region rfl ?_
              refine evOps_val rfl (x_assign rfl) rfl ?_
              refine evOps_nil ?_
              refine thenQ_normal ?_
              refine ev_ret ?_
              refine blockQ_ret (thenQ_ret (loopQ_ret (blockQ_ret (thenQ_ret (?_)))))
              exact end_ret1 rfl rfl ⟨congrArg AV.bool (by have e0 : sameX g1.init g2.init = true := (by simpa using h14); have e1 := sameX_at hx51 hx56 (by simpa using h59); rw [sameX_G]; simp only [e0, e1, Bool.and_true, Bool.true_and, Bool.and_false, Bool.false_and]), hst.pop.pop⟩
            · skip
              refine ev_skip ?_
              refine blockQ_normal ?_
              refine thenQ_normal ?_
              refine ev_region rfl ?_
              refine evOps_val rfl (x_move rfl) rfl ?_
              refine evOps_val rfl (x_bin rfl rfl rfl) rfl ?_
              refine evOps_val rfl (x_assign rfl) rfl ?_
              refine evOps_nil ?_
              refine loopQ_normal ⟨j4 - 1, by omega, (by (iterate 41 refine OffW.put rfl ?_); exact OffW.refl _ _), i + 1, by omega, same_step hs4 hx51 hx56 (by simpa using h59), congrArg (fun z => some (AV.int .i64 z)) (wr_succ (by have := ht1.len_le; omega)), hst⟩
          · skip
            refine ev_exit ?_
            refine thenQ_exit ?_
            refine loopQ_exit ?_
            refine blockQ_exit ?_
            refine thenQ_normal ?_
            refine ev_seq ?_
            refine ev_seq ?_
            refine ev_region rfl ?_
            refine evOps_val rfl (x_assign rfl) rfl ?_
            refine evOps_nil ?_
            refine thenQ_normal ?_
            refine ev_block ?_
            obtain ⟨LL2, hst, hLL2⟩ := hst.named
            refine ev_loopW [4, 6, 60, 61, 62, 63, 64, 65, 66, 67, 68, 69, 70, 71, 72, 73, 74, 75, 76, 77, 78] (fun j t σ => ∃ (i2 : Nat), j + i2 = g1.from_.length ∧ (∀ k, k < i2 → g1.from_[k]? = g2.from_[k]?) ∧ t.get 6 = some (.int .i64 (.ofNat i2)) ∧ St σ K LL2) (g1.from_.length) ⟨0, rfl, fun k hk => absurd hk (Nat.not_lt_zero _), rfl, hst⟩ ?_
            clear hst; intro j9 t σ hoff hI; obtain ⟨i2, hj9, hs9, hv6, hst⟩ := hI
            subst hLL2
            replace hoff := hoff.ex8 rfl rfl; obtain ⟨o4, o6, o60, o61, o62, o63, o64, o65, hoff⟩ := hoff
            replace hoff := hoff.ex8 rfl rfl; obtain ⟨o66, o67, o68, o69, o70, o71, o72, o73, hoff⟩ := hoff
            replace hoff := hoff.ex4 rfl; obtain ⟨o74, o75, o76, o77, hoff⟩ := hoff
            replace hoff := hoff.ex1 rfl; obtain ⟨o78, hoff⟩ := hoff
            obtain rfl := hoff.nil; clear hoff
            replace hv6 : o6 = some _ := hv6; subst hv6
            refine ev_seq ?_
            refine ev_seq ?_
            refine ev_region rfl ?_
            refine evOps_val rfl (x_move rfl) rfl ?_
            refine evOps_val rfl (x_field rfl (k := 2) (by kernel_rfl)) rfl ?_
            refine evOps_val rfl (x_load1 rfl (hst.get 1 rfl) (by kernel_rfl) rfl) rfl ?_
            refine evOps_val rfl (x_len' hf1 rfl rfl rfl (e := 71) (by kernel_rfl) rfl) rfl ?_
            refine evOps_val rfl (x_bin rfl rfl rfl) rfl ?_
            refine evOps_nil ?_
            refine thenQ_normal ?_
            refine ev_cond2 rfl (fun h64 => ?_) (fun h64 => ?_)
            · skip
              refine ev_skip ?_
              refine thenQ_normal ?_
              refine ev_seq ?_
              refine ev_block ?_
              refine ev_seq ?_
              refine ev_region_plan (l := [(0, []), (1, []), (2, []), (3, []), (4, []), (5, []), (6, []), (7, []), (8, []), (9, []), (10, []), (11, [])]) (by kernel_rfl) (by kernel_rfl) ?_
              refine evPlan_val rfl rfl (x_field rfl (k := 2) (by kernel_rfl)) rfl ?_
              refine evPlan_val rfl rfl (x_load1 rfl (hst.get 1 rfl) (by kernel_rfl) rfl) rfl ?_
              refine evPlan_val rfl rfl (x_move rfl) rfl ?_
              obtain ⟨x70, hx70, hi70⟩ := at_lt h64
              refine p_idx (e := 71) (m := 1) hf1 hx70 rfl rfl rfl (by kernel_rfl) (by kernel_rfl) rfl rfl (fun _ => rfl) (fun p70 vs70 hp70 hl70 hr70 => ?_)
              have hr70' := hr70; obtain ⟨v70, rfl, hk70⟩ := hr70'
              refine evPlan_val rfl rfl (x_pload1 hst hp70 rfl (by kernel_rfl) rfl) rfl ?_
              refine evPlan_val rfl rfl (x_field rfl (k := 2) (by kernel_rfl)) rfl ?_
              refine evPlan_val rfl rfl (x_load1 rfl (hst.get 0 rfl) (by kernel_rfl) rfl) rfl ?_
              refine evPlan_val rfl rfl (x_move rfl) rfl ?_
              obtain ⟨x75, hx75⟩ := at_of (show _ < g2.from_.length from by rw [← len_of (notB_f h32)]; exact hi70)
              refine p_idx (e := 71) (m := 1) hf2 hx75 rfl rfl rfl (by kernel_rfl) (by kernel_rfl) rfl rfl (fun _ => rfl) (fun p75 vs75 hp75 hl75 hr75 => ?_)
              have hr75' := hr75; obtain ⟨v75, rfl, hk75⟩ := hr75'
              refine evPlan_val rfl rfl (x_pload1 hst hp75 rfl (by kernel_rfl) rfl) rfl ?_
              refine p_callV rfl rfl (x_call rfl rfl rfl (by kernel_rfl)) (fun _ => rfl) (w_Ids hG hst hk70 hk75) (fun σ hst => ?_)
              refine ⟨still_nil, ?_⟩
              refine evPlan_val rfl rfl (x_not rfl) rfl ?_
              refine evPlan_nil ?_
              refine thenQ_normal ?_
              refine ev_cond2 rfl (fun h78 => ?_) (fun h78 => ?_)
              · skip
                refine ev_seq ?_
                refine ev_region rfl ?_
                refine evOps_val rfl (x_assign rfl) rfl ?_
                refine evOps_nil ?_
                refine thenQ_normal ?_
                refine ev_ret ?_
                refine blockQ_ret (thenQ_ret (loopQ_ret (blockQ_ret (thenQ_ret (?_)))))
                exact end_ret1 rfl rfl ⟨congrArg AV.bool (by have e0 : sameX g1.init g2.init = true := (by simpa using h14); have e1 := sameX_all (len_of (notB_f h23)) (lt_no h45) hs4; have e2 := sameX_at hx70 hx75 (by simpa using h78); rw [sameX_G]; simp only [e0, e1, e2, Bool.and_true, Bool.true_and, Bool.and_false, Bool.false_and]), hst.pop.pop⟩
              · skip
                refine ev_skip ?_
                refine blockQ_normal ?_
                refine thenQ_normal ?_
                refine ev_region rfl ?_
                refine evOps_val rfl (x_move rfl) rfl ?_
                refine evOps_val rfl (x_bin rfl rfl rfl) rfl ?_
                refine evOps_val rfl (x_assign rfl) rfl ?_
                refine evOps_nil ?_
                refine loopQ_normal ⟨j9 - 1, by omega, (by (iterate 41 refine OffW.put rfl ?_); exact OffW.refl _ _), i2 + 1, by omega, same_step hs9 hx70 hx75 (by simpa using h78), congrArg (fun z => some (AV.int .i64 z)) (wr_succ (by have := hf1.len_le; omega)), hst⟩
            · skip
              refine ev_exit ?_
              refine thenQ_exit ?_
              refine loopQ_exit ?_
              refine blockQ_exit ?_
              refine thenQ_normal ?_
              refine ev_seq ?_
              refine ev_seq ?_
              refine ev_region rfl ?_
              refine evOps_val rfl (x_assign rfl) rfl ?_
              refine evOps_nil ?_
              refine thenQ_normal ?_
              refine ev_block ?_
              obtain ⟨LL3, hst, hLL3⟩ := hst.named
              refine ev_loopW [4, 7, 79, 80, 81, 82, 83, 84, 85, 86, 87, 88, 89, 90, 91, 92, 93, 94, 95, 96, 97] (fun j t σ => ∃ (i3 : Nat), j + i3 = g1.order.length ∧ (∀ k, k < i3 → g1.order[k]? = g2.order[k]?) ∧ t.get 7 = some (.int .i64 (.ofNat i3)) ∧ St σ K LL3) (g1.order.length) ⟨0, rfl, fun k hk => absurd hk (Nat.not_lt_zero _), rfl, hst⟩ ?_
              clear hst; intro j14 t σ hoff hI; obtain ⟨i3, hj14, hs14, hv7, hst⟩ := hI
              subst hLL3
              replace hoff := hoff.ex8 rfl rfl; obtain ⟨o4, o7, o79, o80, o81, o82, o83, o84, hoff⟩ := hoff
              replace hoff := hoff.ex8 rfl rfl; obtain ⟨o85, o86, o87, o88, o89, o90, o91, o92, hoff⟩ := hoff
              replace hoff := hoff.ex4 rfl; obtain ⟨o93, o94, o95, o96, hoff⟩ := hoff
              replace hoff := hoff.ex1 rfl; obtain ⟨o97, hoff⟩ := hoff
              obtain rfl := hoff.nil; clear hoff
              replace hv7 : o7 = some _ := hv7; subst hv7
              refine ev_seq ?_
              refine ev_seq ?_
              refine ev_region rfl ?_
              refine evOps_val rfl (x_move rfl) rfl ?_
              refine evOps_val rfl (x_field rfl (k := 3) (by kernel_rfl)) rfl ?_
              refine evOps_val rfl (x_load1 rfl (hst.get 1 rfl) (by kernel_rfl) rfl) rfl ?_
              refine evOps_val rfl (x_len' ho1 rfl rfl rfl (e := 71) (by kernel_rfl) rfl) rfl ?_
              refine evOps_val rfl (x_bin rfl rfl rfl) rfl ?_
              refine evOps_nil ?_
              refine thenQ_normal ?_
              refine ev_cond2 rfl (fun h83 => ?_) (fun h83 => ?_)
              · skip
                refine ev_skip ?_
                refine thenQ_normal ?_
                refine ev_seq ?_
                refine ev_block ?_
                refine ev_seq ?_
                refine ev_region_plan (l := [(0, []), (1, []), (2, []), (3, []), (4, []), (5, []), (6, []), (7, []), (8, []), (9, []), (10, []), (11, [])]) (by kernel_rfl) (by kernel_rfl) ?_
                refine evPlan_val rfl rfl (x_field rfl (k := 3) (by kernel_rfl)) rfl ?_
                refine evPlan_val rfl rfl (x_load1 rfl (hst.get 1 rfl) (by kernel_rfl) rfl) rfl ?_
                refine evPlan_val rfl rfl (x_move rfl) rfl ?_
                obtain ⟨x89, hx89, hi89⟩ := at_lt h83
                refine p_idx (e := 71) (m := 1) ho1 hx89 rfl rfl rfl (by kernel_rfl) (by kernel_rfl) rfl rfl (fun _ => rfl) (fun p89 vs89 hp89 hl89 hr89 => ?_)
                have hr89' := hr89; obtain ⟨v89, rfl, hk89⟩ := hr89'
                refine evPlan_val rfl rfl (x_pload1 hst hp89 rfl (by kernel_rfl) rfl) rfl ?_
                refine evPlan_val rfl rfl (x_field rfl (k := 3) (by kernel_rfl)) rfl ?_
                refine evPlan_val rfl rfl (x_load1 rfl (hst.get 0 rfl) (by kernel_rfl) rfl) rfl ?_
                refine evPlan_val rfl rfl (x_move rfl) rfl ?_
                obtain ⟨x94, hx94⟩ := at_of (show _ < g2.order.length from by rw [← len_of (notB_f h40)]; exact hi89)
                refine p_idx (e := 71) (m := 1) ho2 hx94 rfl rfl rfl (by kernel_rfl) (by kernel_rfl) rfl rfl (fun _ => rfl) (fun p94 vs94 hp94 hl94 hr94 => ?_)
                have hr94' := hr94; obtain ⟨v94, rfl, hk94⟩ := hr94'
                refine evPlan_val rfl rfl (x_pload1 hst hp94 rfl (by kernel_rfl) rfl) rfl ?_
                refine p_callV rfl rfl (x_call rfl rfl rfl (by kernel_rfl)) (fun _ => rfl) (w_Ids hG hst hk89 hk94) (fun σ hst => ?_)
                refine ⟨still_nil, ?_⟩
                refine evPlan_val rfl rfl (x_not rfl) rfl ?_
                refine evPlan_nil ?_
                refine thenQ_normal ?_
                refine ev_cond2 rfl (fun h97 => ?_) (fun h97 => ?_)
                · skip
                  refine ev_seq ?_
                  refine ev_region rfl ?_
                  refine evOps_val rfl (x_assign rfl) rfl ?_
                  refine evOps_nil ?_
                  refine thenQ_normal ?_
                  refine ev_ret ?_
                  refine blockQ_ret (thenQ_ret (loopQ_ret (blockQ_ret (thenQ_ret (?_)))))
                  exact end_ret1 rfl rfl ⟨congrArg AV.bool (by have e0 : sameX g1.init g2.init = true := (by simpa using h14); have e1 := sameX_all (len_of (notB_f h23)) (lt_no h45) hs4; have e2 := sameX_all (len_of (notB_f h32)) (lt_no h64) hs9; have e3 := sameX_at hx89 hx94 (by simpa using h97); rw [sameX_G]; simp only [e0, e1, e2, e3, Bool.and_true, Bool.true_and, Bool.and_false, Bool.false_and]), hst.pop.pop⟩
                · skip
                  refine ev_skip ?_
                  refine blockQ_normal ?_
                  refine thenQ_normal ?_
                  refine ev_region rfl ?_
                  refine evOps_val rfl (x_move rfl) rfl ?_
                  refine evOps_val rfl (x_bin rfl rfl rfl) rfl ?_
                  refine evOps_val rfl (x_assign rfl) rfl ?_
                  refine evOps_nil ?_
                  refine loopQ_normal ⟨j14 - 1, by omega, (by (iterate 41 refine OffW.put rfl ?_); exact OffW.refl _ _), i3 + 1, by omega, same_step hs14 hx89 hx94 (by simpa using h97), congrArg (fun z => some (AV.int .i64 z)) (wr_succ (by have := ho1.len_le; omega)), hst⟩
              · skip
                refine ev_exit ?_
                refine thenQ_exit ?_
                refine loopQ_exit ?_
                refine blockQ_exit ?_
                refine thenQ_normal ?_
                refine ev_seq ?_
                refine ev_region rfl ?_
                refine evOps_val rfl (x_assign rfl) rfl ?_
                refine evOps_nil ?_
                refine thenQ_normal ?_
                refine ev_ret ?_
                exact end_ret1 rfl rfl ⟨congrArg AV.bool (by have e0 : sameX g1.init g2.init = true := (by simpa using h14); have e1 := sameX_all (len_of (notB_f h23)) (lt_no h45) hs4; have e2 := sameX_all (len_of (notB_f h32)) (lt_no h64) hs9; have e3 := sameX_all (len_of (notB_f h40)) (lt_no h83) hs14; rw [sameX_G]; simp only [e0, e1, e2, e3, Bool.and_true, Bool.true_and, Bool.and_false, Bool.false_and]), hst.pop.pop⟩
theorem RL.mono {α : Type} {K K' : KP} (hk : KP.le K K') {m : Nat} {R : α → List AV → Prop} {l : List α} {vs : List AV} (h : RL K m R l vs) : RL K' m R l vs := let ⟨v, h1, h2⟩ := h; ⟨v, h1, h2.mono hk fun _ _ h => h⟩
theorem HasG.mono {K K' : KP} (hk : KP.le K K') {g : XG} {a b c d : AV} (h : HasG K g a b c d) : HasG K' g a b c d :=
  ⟨h.init.mono hk fun _ _ h => h, h.threads.mono hk fun _ _ h => h.mono hk, h.from_.mono hk fun _ _ h => h.mono hk, h.order.mono hk fun _ _ h => h.mono hk⟩
theorem w_isNaN_int {G : Cx} (hG : Plain G) {K : KP} (x : Int) {σ : AHeap} {L : Own} (hst : St σ K L) : EvCall Tryz.prog G 98 [.int .i64 x] σ fun v σ' => v = .bool false ∧ St σ' K L := by
  refine ev_body hG Tryz.func98 rfl (t := PT.leaf.put (some (.int .i64 x)) 0) (by rfl) ?_
  refine ev_seq ?_
  refine ev_region rfl ?_
  refine evOps_val rfl (x_assign rfl) rfl ?_
  refine evOps_nil ?_
  refine thenQ_normal ?_
  refine ev_seq ?_
  refine ev_region rfl ?_
  refine evOps_val rfl (x_move rfl) rfl ?_
  refine evOps_val rfl (x_move rfl) rfl ?_
  refine evOps_val rfl (x_bin rfl rfl rfl) rfl ?_
  refine evOps_val rfl (x_assign rfl) rfl ?_
  refine evOps_nil ?_
  refine thenQ_normal ?_
  refine ev_ret ?_
  exact end_ret1 rfl rfl ⟨congrArg AV.bool (nan_i x), hst⟩
theorem w_cmp_int {G : Cx} (hG : Plain G) {K : KP} (x y : Int) {σ : AHeap} {L : Own} (hst : St σ K L) : EvCall Tryz.prog G 75 [.int .i64 x, .int .i64 y] σ fun v σ' => v = .int .i64 (cmpZ x y) ∧ St σ' K L := by
  refine ev_body hG Tryz.func75 rfl (t := (PT.leaf.put (some (.int .i64 x)) 0).put (some (.int .i64 y)) 1) (by rfl) ?_
  refine ev_seq ?_
  refine ev_region rfl ?_
  refine evOps_val rfl (x_assign rfl) rfl ?_
  refine evOps_nil ?_
  refine thenQ_normal ?_
  refine ev_seq ?_
  refine ev_region rfl ?_
  refine evOps_val rfl (x_move rfl) rfl ?_
  refine o_callV rfl (x_call rfl rfl rfl (by kernel_rfl)) (fun _ => rfl) (w_isNaN_int hG _ hst) (fun σ hst => ?_)
  refine evOps_val rfl (x_assign rfl) rfl ?_
  refine evOps_nil ?_
  refine thenQ_normal ?_
  refine ev_seq ?_
  refine ev_region rfl ?_
  refine evOps_val rfl (x_move rfl) rfl ?_
  refine o_callV rfl (x_call rfl rfl rfl (by kernel_rfl)) (fun _ => rfl) (w_isNaN_int hG _ hst) (fun σ hst => ?_)
  refine evOps_val rfl (x_assign rfl) rfl ?_
  refine evOps_nil ?_
  refine thenQ_normal ?_
  refine ev_seq ?_
  refine ev_seq ?_
  refine ev_region rfl ?_
  refine evOps_val rfl (x_move rfl) rfl ?_
  refine evOps_nil ?_
  refine thenQ_normal ?_
  refine ev_cond_false rfl ?_
  refine ev_skip ?_
  refine thenQ_normal ?_
  refine ev_seq ?_
  refine ev_seq ?_
  refine ev_region rfl ?_
  refine evOps_val rfl (x_move rfl) rfl ?_
  refine evOps_nil ?_
  refine thenQ_normal ?_
  refine ev_cond_false rfl ?_
  refine ev_skip ?_
  refine thenQ_normal ?_
  refine ev_seq ?_
  refine ev_seq ?_
  refine ev_region rfl ?_
  refine evOps_val rfl (x_move rfl) rfl ?_
  refine evOps_val rfl (x_move rfl) rfl ?_
  refine evOps_val rfl (x_bin rfl rfl rfl) rfl ?_
  refine evOps_nil ?_
  refine thenQ_normal ?_
  refine ev_cond2 rfl (fun h16 => ?_) (fun h16 => ?_)
  · skip
    refine ev_seq ?_
    refine ev_region rfl ?_
    refine evOps_val rfl (x_assign rfl) rfl ?_
    refine evOps_nil ?_
    refine thenQ_normal ?_
    refine ev_ret ?_
    refine thenQ_ret (?_)
    exact end_ret1 rfl rfl ⟨congrArg (AV.int .i64) (by unfold cmpZ; rw [h16]; rfl), hst⟩
  · skip
    refine ev_skip ?_
    refine thenQ_normal ?_
    refine ev_seq ?_
    refine ev_seq ?_
    refine ev_region rfl ?_
    refine evOps_val rfl (x_move rfl) rfl ?_
    refine evOps_val rfl (x_move rfl) rfl ?_
    refine evOps_val rfl (x_bin rfl rfl rfl) rfl ?_
    refine evOps_nil ?_
    refine thenQ_normal ?_
    refine ev_cond2 rfl (fun h19 => ?_) (fun h19 => ?_)
    · skip
      refine ev_seq ?_
      refine ev_region rfl ?_
      refine evOps_val rfl (x_assign rfl) rfl ?_
      refine evOps_nil ?_
      refine thenQ_normal ?_
      refine ev_ret ?_
      refine thenQ_ret (?_)
      exact end_ret1 rfl rfl ⟨congrArg (AV.int .i64) (by unfold cmpZ; rw [h16, h19]; rfl), hst⟩
    · skip
      refine ev_skip ?_
      refine thenQ_normal ?_
      refine ev_seq ?_
      refine ev_region rfl ?_
      refine evOps_val rfl (x_assign rfl) rfl ?_
      refine evOps_nil ?_
      refine thenQ_normal ?_
      refine ev_ret ?_
      exact end_ret1 rfl rfl ⟨congrArg (AV.int .i64) (by unfold cmpZ; rw [h16, h19]; rfl), hst⟩
theorem w_of1_int {G : Cx} (hG : Plain G) {K : KP} {x y : Int} {p q : AV} (hp1 : PtsTo K p [.int .i64 x]) (hp2 : PtsTo K q [.int .i64 y]) {σ : AHeap} {L : Own} (hst : St σ K L) : EvCall Tryz.prog G 74 [p, q] σ fun v σ' => v = .int .i64 (cmpZ x y) ∧ St σ' K L := by
  refine ev_body hG Tryz.func74 rfl (t := (PT.leaf.put (some (p)) 0).put (some (q)) 1) (by rfl) ?_
  refine ev_seq ?_
  refine ev_region rfl ?_
  refine evOps_val rfl (x_assign rfl) rfl ?_
  refine evOps_nil ?_
  refine thenQ_normal ?_
  refine ev_seq ?_
  refine ev_region rfl ?_
  refine evOps_val rfl (x_pload1 hst hp1 rfl (by kernel_rfl) rfl) rfl ?_
  refine evOps_val rfl (x_pload1 hst hp2 rfl (by kernel_rfl) rfl) rfl ?_
  refine o_callV rfl (x_call rfl rfl rfl (by kernel_rfl)) (fun _ => rfl) (w_cmp_int hG _ _ hst) (fun σ hst => ?_)
  refine evOps_val rfl (x_assign rfl) rfl ?_
  refine evOps_nil ?_
  refine thenQ_normal ?_
  refine ev_ret ?_
  exact end_ret1 rfl rfl ⟨rfl, hst⟩
theorem rf_87 {G : Cx} (hG : Plain G) {K : KP} {x y : Int} {b1 b2 e1 e2 : Nat} (h1 : K b1 (.row [.int .i64 x] e1 false)) (h2 : K b2 (.row [.int .i64 y] e2 false)) : RFun Tryz.prog G K (cmpZ x y) [.func 74 [] [.ptr b1 0, .ptr b2 0]] := ⟨74, _, rfl, by kernel_rfl, fun σ L hst => w_of1_int hG (pts_row h1) (pts_row h2) hst⟩
theorem w_of_int {G : Cx} (hG : Plain G) {K : KP} (x y : Int) {σ : AHeap} {L : Own} (hst : St σ K L) : EvCall Tryz.prog G 40 [.int .i64 x, .int .i64 y] σ fun v σ' => ∃ b1 b2, v = .func 74 [] [.ptr b1 0, .ptr b2 0] ∧ St σ' K ((b2, .row [.int .i64 y] 3 false) :: (b1, .row [.int .i64 x] 3 false) :: L) := by
  refine ev_body hG Tryz.func40 rfl (t := (PT.leaf.put (some (.int .i64 x)) 0).put (some (.int .i64 y)) 1) (by rfl) ?_
  refine ev_seq ?_
  refine ev_region rfl ?_
  refine o_ptr hst rfl (x_box rfl rfl) (fun _ => rfl) (fun σ b1 hst => ?_)
  refine o_ptr hst rfl (x_box rfl rfl) (fun _ => rfl) (fun σ b2 hst => ?_)
  refine evOps_val rfl (x_assign rfl) rfl ?_
  refine evOps_nil ?_
  refine thenQ_normal ?_
  refine ev_seq ?_
  refine ev_region rfl ?_
  refine evOps_val rfl (x_pure rfl rfl) rfl ?_
  refine evOps_val rfl (x_assign rfl) rfl ?_
  refine evOps_nil ?_
  refine thenQ_normal ?_
  refine ev_ret ?_
  exact end_ret1 rfl rfl ⟨_, _, rfl, hst⟩
theorem w_isNaN_int64 {G : Cx} (hG : Plain G) {K : KP} (x : Int) {σ : AHeap} {L : Own} (hst : St σ K L) : EvCall Tryz.prog G 100 [.int .i64 x] σ fun v σ' => v = .bool false ∧ St σ' K L := by
  refine ev_body hG Tryz.func100 rfl (t := PT.leaf.put (some (.int .i64 x)) 0) (by rfl) ?_
  refine ev_seq ?_
  refine ev_region rfl ?_
  refine evOps_val rfl (x_assign rfl) rfl ?_
  refine evOps_nil ?_
  refine thenQ_normal ?_
  refine ev_seq ?_
  refine ev_region rfl ?_
  refine evOps_val rfl (x_move rfl) rfl ?_
  refine evOps_val rfl (x_move rfl) rfl ?_
  refine evOps_val rfl (x_bin rfl rfl rfl) rfl ?_
  refine evOps_val rfl (x_assign rfl) rfl ?_
  refine evOps_nil ?_
  refine thenQ_normal ?_
  refine ev_ret ?_
  exact end_ret1 rfl rfl ⟨congrArg AV.bool (nan_i x), hst⟩
theorem w_cmp_int64 {G : Cx} (hG : Plain G) {K : KP} (x y : Int) {σ : AHeap} {L : Own} (hst : St σ K L) : EvCall Tryz.prog G 81 [.int .i64 x, .int .i64 y] σ fun v σ' => v = .int .i64 (cmpZ x y) ∧ St σ' K L := by
  refine ev_body hG Tryz.func81 rfl (t := (PT.leaf.put (some (.int .i64 x)) 0).put (some (.int .i64 y)) 1) (by rfl) ?_
  refine ev_seq ?_
  refine ev_region rfl ?_
  refine evOps_val rfl (x_assign rfl) rfl ?_
  refine evOps_nil ?_
  refine thenQ_normal ?_
  refine ev_seq ?_
  refine ev_region rfl ?_
  refine evOps_val rfl (x_move rfl) rfl ?_
  refine o_callV rfl (x_call rfl rfl rfl (by kernel_rfl)) (fun _ => rfl) (w_isNaN_int64 hG _ hst) (fun σ hst => ?_)
  refine evOps_val rfl (x_assign rfl) rfl ?_
  refine evOps_nil ?_
  refine thenQ_normal ?_
  refine ev_seq ?_
  refine ev_region rfl ?_
  refine evOps_val rfl (x_move rfl) rfl ?_
  refine o_callV rfl (x_call rfl rfl rfl (by kernel_rfl)) (fun _ => rfl) (w_isNaN_int64 hG _ hst) (fun σ hst => ?_)
  refine evOps_val rfl (x_assign rfl) rfl ?_
  refine evOps_nil ?_
  refine thenQ_normal ?_
  refine ev_seq ?_
  refine ev_seq ?_
  refine ev_region rfl ?_
  refine evOps_val rfl (x_move rfl) rfl ?_
  refine evOps_nil ?_
  refine thenQ_normal ?_
  refine ev_cond_false rfl ?_
  refine ev_skip ?_
  refine thenQ_normal ?_
  refine ev_seq ?_
  refine ev_seq ?_
  refine ev_region rfl ?_
  refine evOps_val rfl (x_move rfl) rfl ?_
  refine evOps_nil ?_
  refine thenQ_normal ?_
  refine ev_cond_false rfl ?_
  refine ev_skip ?_
  refine thenQ_normal ?_
  refine ev_seq ?_
  refine ev_seq ?_
  refine ev_region rfl ?_
  refine evOps_val rfl (x_move rfl) rfl ?_
  refine evOps_val rfl (x_move rfl) rfl ?_
  refine evOps_val rfl (x_bin rfl rfl rfl) rfl ?_
  refine evOps_nil ?_
  refine thenQ_normal ?_
  refine ev_cond2 rfl (fun h16 => ?_) (fun h16 => ?_)
  · skip
    refine ev_seq ?_
    refine ev_region rfl ?_
    refine evOps_val rfl (x_assign rfl) rfl ?_
    refine evOps_nil ?_
    refine thenQ_normal ?_
    refine ev_ret ?_
    refine thenQ_ret (?_)
    exact end_ret1 rfl rfl ⟨congrArg (AV.int .i64) (by unfold cmpZ; rw [h16]; rfl), hst⟩
  · skip
    refine ev_skip ?_
    refine thenQ_normal ?_
    refine ev_seq ?_
    refine ev_seq ?_
    refine ev_region rfl ?_
    refine evOps_val rfl (x_move rfl) rfl ?_
    refine evOps_val rfl (x_move rfl) rfl ?_
    refine evOps_val rfl (x_bin rfl rfl rfl) rfl ?_
    refine evOps_nil ?_
    refine thenQ_normal ?_
    refine ev_cond2 rfl (fun h19 => ?_) (fun h19 => ?_)
    · skip
      refine ev_seq ?_
      refine ev_region rfl ?_
      refine evOps_val rfl (x_assign rfl) rfl ?_
      refine evOps_nil ?_
      refine thenQ_normal ?_
      refine ev_ret ?_
      refine thenQ_ret (?_)
      exact end_ret1 rfl rfl ⟨congrArg (AV.int .i64) (by unfold cmpZ; rw [h16, h19]; rfl), hst⟩
    · skip
      refine ev_skip ?_
      refine thenQ_normal ?_
      refine ev_seq ?_
      refine ev_region rfl ?_
      refine evOps_val rfl (x_assign rfl) rfl ?_
      refine evOps_nil ?_
      refine thenQ_normal ?_
      refine ev_ret ?_
      exact end_ret1 rfl rfl ⟨congrArg (AV.int .i64) (by unfold cmpZ; rw [h16, h19]; rfl), hst⟩
theorem w_of1_int64 {G : Cx} (hG : Plain G) {K : KP} {x y : Int} {p q : AV} (hp1 : PtsTo K p [.int .i64 x]) (hp2 : PtsTo K q [.int .i64 y]) {σ : AHeap} {L : Own} (hst : St σ K L) : EvCall Tryz.prog G 126 [p, q] σ fun v σ' => v = .int .i64 (cmpZ x y) ∧ St σ' K L := by
  refine ev_body hG Tryz.func126 rfl (t := (PT.leaf.put (some (p)) 0).put (some (q)) 1) (by rfl) ?_
  refine ev_seq ?_
  refine ev_region rfl ?_
  refine evOps_val rfl (x_assign rfl) rfl ?_
  refine evOps_nil ?_
  refine thenQ_normal ?_
  refine ev_seq ?_
  refine ev_region rfl ?_
  refine evOps_val rfl (x_pload1 hst hp1 rfl (by kernel_rfl) rfl) rfl ?_
  refine evOps_val rfl (x_pload1 hst hp2 rfl (by kernel_rfl) rfl) rfl ?_
  refine o_callV rfl (x_call rfl rfl rfl (by kernel_rfl)) (fun _ => rfl) (w_cmp_int64 hG _ _ hst) (fun σ hst => ?_)
  refine evOps_val rfl (x_assign rfl) rfl ?_
  refine evOps_nil ?_
  refine thenQ_normal ?_
  refine ev_ret ?_
  exact end_ret1 rfl rfl ⟨rfl, hst⟩
theorem rf_113 {G : Cx} (hG : Plain G) {K : KP} {x y : Int} {b1 b2 e1 e2 : Nat} (h1 : K b1 (.row [.int .i64 x] e1 false)) (h2 : K b2 (.row [.int .i64 y] e2 false)) : RFun Tryz.prog G K (cmpZ x y) [.func 126 [] [.ptr b1 0, .ptr b2 0]] := ⟨126, _, rfl, by kernel_rfl, fun σ L hst => w_of1_int64 hG (pts_row h1) (pts_row h2) hst⟩
theorem w_of_int64 {G : Cx} (hG : Plain G) {K : KP} (x y : Int) {σ : AHeap} {L : Own} (hst : St σ K L) : EvCall Tryz.prog G 99 [.int .i64 x, .int .i64 y] σ fun v σ' => ∃ b1 b2, v = .func 126 [] [.ptr b1 0, .ptr b2 0] ∧ St σ' K ((b2, .row [.int .i64 y] 2 false) :: (b1, .row [.int .i64 x] 2 false) :: L) := by
  refine ev_body hG Tryz.func99 rfl (t := (PT.leaf.put (some (.int .i64 x)) 0).put (some (.int .i64 y)) 1) (by rfl) ?_
  refine ev_seq ?_
  refine ev_region rfl ?_
  refine o_ptr hst rfl (x_box rfl rfl) (fun _ => rfl) (fun σ b1 hst => ?_)
  refine o_ptr hst rfl (x_box rfl rfl) (fun _ => rfl) (fun σ b2 hst => ?_)
  refine evOps_val rfl (x_assign rfl) rfl ?_
  refine evOps_nil ?_
  refine thenQ_normal ?_
  refine ev_seq ?_
  refine ev_region rfl ?_
  refine evOps_val rfl (x_pure rfl rfl) rfl ?_
  refine evOps_val rfl (x_assign rfl) rfl ?_
  refine evOps_nil ?_
  refine thenQ_normal ?_
  refine ev_ret ?_
  exact end_ret1 rfl rfl ⟨_, _, rfl, hst⟩
theorem w_decided {G : Cx} (hG : Plain G) {K : KP} {l : List Int} {v : AV} {σ : AHeap} {L : Own} (hst : St σ K L) (h : HasS K 1 (RFun Tryz.prog G K) l v) : EvCall Tryz.prog G 39 [v] σ fun v σ' => v = .int .i64 (fnz l) ∧ St σ' K L := by
  refine ev_body hG Tryz.func39 rfl (t := PT.leaf.put (some (v)) 0) (by rfl) ?_
  refine ev_seq ?_
  refine ev_region rfl ?_
  refine evOps_val rfl (x_assign rfl) rfl ?_
  refine evOps_nil ?_
  refine thenQ_normal ?_
  refine ev_seq ?_
  refine ev_seq ?_
  refine ev_region rfl ?_
  refine evOps_val rfl (x_move rfl) rfl ?_
  refine evOps_val rfl (x_len' h rfl rfl rfl (e := 89) (by kernel_rfl) rfl) rfl ?_
  refine evOps_val rfl (x_move rfl) rfl ?_
  refine evOps_nil ?_
  refine thenQ_normal ?_
  refine ev_block ?_
  obtain ⟨LL1, hst, hLL1⟩ := hst.named
  refine ev_loopW [2, 4, 5, 8, 9, 10, 11, 12, 13, 14, 15, 16, 17] (fun j t σ => ∃ (i : Nat), j + i = l.length ∧ fnz l = fnz (l.drop i) ∧ t.get 8 = some (.int .i64 (.ofNat i)) ∧ St σ K LL1) (l.length) ⟨0, rfl, rfl, rfl, hst⟩ ?_
  clear hst; intro j2 t σ hoff hI; obtain ⟨i, hj2, he2, hv8, hst⟩ := hI
  subst hLL1
  replace hoff := hoff.ex8 rfl rfl; obtain ⟨o2, o4, o5, o8, o9, o10, o11, o12, hoff⟩ := hoff
  replace hoff := hoff.ex4 rfl; obtain ⟨o13, o14, o15, o16, hoff⟩ := hoff
  replace hoff := hoff.ex1 rfl; obtain ⟨o17, hoff⟩ := hoff
  obtain rfl := hoff.nil; clear hoff
  replace hv8 : o8 = some _ := hv8; subst hv8
  refine ev_seq ?_
  refine ev_region rfl ?_
  refine evOps_val rfl (x_bin rfl rfl rfl) rfl ?_
  refine evOps_nil ?_
  refine thenQ_normal ?_
  refine ev_seq ?_
  refine ev_cond2 rfl (fun h9 => ?_) (fun h9 => ?_)
  · skip
    refine ev_skip ?_
    refine thenQ_normal ?_
    refine ev_seq ?_
    refine ev_block ?_
    refine ev_seq ?_
    refine ev_region rfl ?_
    obtain ⟨x10, hx10, hi10⟩ := at_lt h9
    refine o_idx (e := 89) (m := 1) h hx10 rfl rfl (by kernel_rfl) (by kernel_rfl) rfl rfl (fun _ => rfl) (fun p10 vs10 hp10 hl10 hr10 => ?_)
    obtain ⟨f10, ca10, rfl, hgo10, hcall10⟩ := hr10
    refine evOps_val rfl (x_pload1 hst hp10 rfl (by kernel_rfl) rfl) rfl ?_
    refine evOps_val rfl (x_assign rfl) rfl ?_
    refine evOps_nil ?_
    refine thenQ_normal ?_
    refine ev_seq ?_
    refine ev_region rfl ?_
    refine evOps_val rfl (x_move rfl) rfl ?_
    refine o_callV rfl (x_call rfl rfl rfl hgo10) (fun _ => rfl) (hcall10 _ _ hst) (fun σ hst => ?_)
    refine evOps_val rfl (x_assign rfl) rfl ?_
    refine evOps_nil ?_
    refine thenQ_normal ?_
    refine ev_seq ?_
    refine ev_region rfl ?_
    refine evOps_val rfl (x_move rfl) rfl ?_
    refine evOps_val rfl (x_bin rfl rfl rfl) rfl ?_
    refine evOps_nil ?_
    refine thenQ_normal ?_
    refine ev_cond2 rfl (fun h15 => ?_) (fun h15 => ?_)
    · skip
      refine ev_seq ?_
      refine ev_region rfl ?_
      refine evOps_val rfl (x_move rfl) rfl ?_
      refine evOps_val rfl (x_assign rfl) rfl ?_
      refine evOps_nil ?_
      refine thenQ_normal ?_
      refine ev_ret ?_
      refine blockQ_ret (thenQ_ret (loopQ_ret (blockQ_ret (thenQ_ret (?_)))))
      exact end_ret1 rfl rfl ⟨congrArg (AV.int .i64) (by symm; rw [he2, drop_at hx10]; show (bif eqI x10 0 then _ else _) = _; rw [notB_t h15]; rfl), hst⟩
    · skip
      refine ev_skip ?_
      refine blockQ_normal ?_
      refine thenQ_normal ?_
      refine ev_region rfl ?_
      refine evOps_val rfl (x_bin rfl rfl rfl) rfl ?_
      refine evOps_val rfl (x_move rfl) rfl ?_
      refine evOps_nil ?_
      refine loopQ_normal ⟨j2 - 1, by omega, (by (iterate 24 refine OffW.put rfl ?_); exact OffW.refl _ _), i + 1, by omega, by rw [he2, drop_at hx10]; show (bif eqI x10 0 then _ else _) = _; rw [notB_f h15]; rfl, congrArg (fun z => some (AV.int .i64 z)) (wr_succ (by have := h.len_le; omega)), hst⟩
  · skip
    refine ev_exit ?_
    refine thenQ_exit ?_
    refine loopQ_exit ?_
    refine blockQ_exit ?_
    refine thenQ_normal ?_
    refine ev_seq ?_
    refine ev_region rfl ?_
    refine evOps_val rfl (x_assign rfl) rfl ?_
    refine evOps_nil ?_
    refine thenQ_normal ?_
    refine ev_ret ?_
    exact end_ret1 rfl rfl ⟨congrArg (AV.int .i64) (by symm; rw [he2, drop_end (lt_no h9)]; rfl), hst⟩
theorem w_compareEvent {G : Cx} (hG : Plain G) {K : KP} (x y : XEv) {σ : AHeap} {L : Own} (hst : St σ K L) : EvCall Tryz.prog G 77 [.agg [.int .i64 x.kind, .int .i64 x.loc, .int .i64 x.order, .int .i64 x.read, .int .i64 x.write], .agg [.int .i64 y.kind, .int .i64 y.loc, .int .i64 y.order, .int .i64 y.read, .int .i64 y.write]] σ fun v σ' => v = .int .i64 (cmpEv x y) ∧ St σ' K L := by
  refine ev_body hG Tryz.func77 rfl (t := (PT.leaf.put (some (.agg [.int .i64 x.kind, .int .i64 x.loc, .int .i64 x.order, .int .i64 x.read, .int .i64 x.write])) 0).put (some (.agg [.int .i64 y.kind, .int .i64 y.loc, .int .i64 y.order, .int .i64 y.read, .int .i64 y.write])) 1) (by rfl) ?_
  refine ev_seq ?_
  refine ev_region rfl ?_
  refine o_ptr hst rfl (x_box rfl rfl) (fun _ => rfl) (fun σ b1 hst => ?_)
  refine o_ptr hst rfl (x_box rfl rfl) (fun _ => rfl) (fun σ b2 hst => ?_)
  refine evOps_val rfl (x_assign rfl) rfl ?_
  refine evOps_nil ?_
  refine thenQ_normal ?_
  refine ev_seq ?_
  refine ev_region_plan (l := [(0, []), (1, []), (2, []), (3, []), (5, []), (6, []), (7, []), (8, []), (10, []), (11, []), (12, []), (13, []), (15, []), (16, []), (17, []), (18, []), (20, []), (21, []), (22, []), (23, []), (4, [6, 8, 11, 13, 16, 18, 21, 23]), (9, [11, 13, 16, 18, 21, 23]), (14, [16, 18, 21, 23]), (19, [21, 23]), (24, []), (25, []), (26, []), (27, [])]) (by kernel_rfl) (by kernel_rfl) ?_
  refine evPlan_val rfl rfl (x_field rfl (k := 0) (by kernel_rfl)) rfl ?_
  refine evPlan_val rfl rfl (x_load1 rfl (hst.get 1 rfl) (by kernel_rfl) rfl) rfl ?_
  refine evPlan_val rfl rfl (x_field rfl (k := 0) (by kernel_rfl)) rfl ?_
  refine evPlan_val rfl rfl (x_load1 rfl (hst.get 0 rfl) (by kernel_rfl) rfl) rfl ?_
  refine evPlan_val rfl rfl (x_field rfl (k := 1) (by kernel_rfl)) rfl ?_
  refine evPlan_val rfl rfl (x_load1 rfl (hst.get 1 rfl) (by kernel_rfl) rfl) rfl ?_
  refine evPlan_val rfl rfl (x_field rfl (k := 1) (by kernel_rfl)) rfl ?_
  refine evPlan_val rfl rfl (x_load1 rfl (hst.get 0 rfl) (by kernel_rfl) rfl) rfl ?_
  refine evPlan_val rfl rfl (x_field rfl (k := 2) (by kernel_rfl)) rfl ?_
  refine evPlan_val rfl rfl (x_load1 rfl (hst.get 1 rfl) (by kernel_rfl) rfl) rfl ?_
  refine evPlan_val rfl rfl (x_field rfl (k := 2) (by kernel_rfl)) rfl ?_
  refine evPlan_val rfl rfl (x_load1 rfl (hst.get 0 rfl) (by kernel_rfl) rfl) rfl ?_
  refine evPlan_val rfl rfl (x_field rfl (k := 3) (by kernel_rfl)) rfl ?_
  refine evPlan_val rfl rfl (x_load1 rfl (hst.get 1 rfl) (by kernel_rfl) rfl) rfl ?_
  refine evPlan_val rfl rfl (x_field rfl (k := 3) (by kernel_rfl)) rfl ?_
  refine evPlan_val rfl rfl (x_load1 rfl (hst.get 0 rfl) (by kernel_rfl) rfl) rfl ?_
  refine evPlan_val rfl rfl (x_field rfl (k := 4) (by kernel_rfl)) rfl ?_
  refine evPlan_val rfl rfl (x_load1 rfl (hst.get 1 rfl) (by kernel_rfl) rfl) rfl ?_
  refine evPlan_val rfl rfl (x_field rfl (k := 4) (by kernel_rfl)) rfl ?_
  refine evPlan_val rfl rfl (x_load1 rfl (hst.get 0 rfl) (by kernel_rfl) rfl) rfl ?_
  refine p_call rfl rfl (x_call rfl rfl rfl (by kernel_rfl)) (fun _ => rfl) (w_of_int hG _ _ hst) ?_
  rintro _ σ ⟨b3, b4, rfl, hst⟩
  refine ⟨(still_cons (still_read rfl rfl rfl rfl rfl (x_load1 rfl (hst.get 3 rfl) (by kernel_rfl) rfl) (beqA_int _ _)) (still_cons (still_read rfl rfl rfl rfl rfl (x_load1 rfl (hst.get 2 rfl) (by kernel_rfl) rfl) (beqA_int _ _)) (still_cons (still_read rfl rfl rfl rfl rfl (x_load1 rfl (hst.get 3 rfl) (by kernel_rfl) rfl) (beqA_int _ _)) (still_cons (still_read rfl rfl rfl rfl rfl (x_load1 rfl (hst.get 2 rfl) (by kernel_rfl) rfl) (beqA_int _ _)) (still_cons (still_read rfl rfl rfl rfl rfl (x_load1 rfl (hst.get 3 rfl) (by kernel_rfl) rfl) (beqA_int _ _)) (still_cons (still_read rfl rfl rfl rfl rfl (x_load1 rfl (hst.get 2 rfl) (by kernel_rfl) rfl) (beqA_int _ _)) (still_cons (still_read rfl rfl rfl rfl rfl (x_load1 rfl (hst.get 3 rfl) (by kernel_rfl) rfl) (beqA_int _ _)) (still_cons (still_read rfl rfl rfl rfl rfl (x_load1 rfl (hst.get 2 rfl) (by kernel_rfl) rfl) (beqA_int _ _)) still_nil)))))))), ?_⟩
  refine p_call rfl rfl (x_call rfl rfl rfl (by kernel_rfl)) (fun _ => rfl) (w_of_int hG _ _ hst) ?_
  rintro _ σ ⟨b5, b6, rfl, hst⟩
  refine ⟨(still_cons (still_read rfl rfl rfl rfl rfl (x_load1 rfl (hst.get 5 rfl) (by kernel_rfl) rfl) (beqA_int _ _)) (still_cons (still_read rfl rfl rfl rfl rfl (x_load1 rfl (hst.get 4 rfl) (by kernel_rfl) rfl) (beqA_int _ _)) (still_cons (still_read rfl rfl rfl rfl rfl (x_load1 rfl (hst.get 5 rfl) (by kernel_rfl) rfl) (beqA_int _ _)) (still_cons (still_read rfl rfl rfl rfl rfl (x_load1 rfl (hst.get 4 rfl) (by kernel_rfl) rfl) (beqA_int _ _)) (still_cons (still_read rfl rfl rfl rfl rfl (x_load1 rfl (hst.get 5 rfl) (by kernel_rfl) rfl) (beqA_int _ _)) (still_cons (still_read rfl rfl rfl rfl rfl (x_load1 rfl (hst.get 4 rfl) (by kernel_rfl) rfl) (beqA_int _ _)) still_nil)))))), ?_⟩
  refine p_call rfl rfl (x_call rfl rfl rfl (by kernel_rfl)) (fun _ => rfl) (w_of_int hG _ _ hst) ?_
  rintro _ σ ⟨b7, b8, rfl, hst⟩
  refine ⟨(still_cons (still_read rfl rfl rfl rfl rfl (x_load1 rfl (hst.get 7 rfl) (by kernel_rfl) rfl) (beqA_int _ _)) (still_cons (still_read rfl rfl rfl rfl rfl (x_load1 rfl (hst.get 6 rfl) (by kernel_rfl) rfl) (beqA_int _ _)) (still_cons (still_read rfl rfl rfl rfl rfl (x_load1 rfl (hst.get 7 rfl) (by kernel_rfl) rfl) (beqA_int _ _)) (still_cons (still_read rfl rfl rfl rfl rfl (x_load1 rfl (hst.get 6 rfl) (by kernel_rfl) rfl) (beqA_int _ _)) still_nil)))), ?_⟩
  refine p_call rfl rfl (x_call rfl rfl rfl (by kernel_rfl)) (fun _ => rfl) (w_of_int64 hG _ _ hst) ?_
  rintro _ σ ⟨b9, b10, rfl, hst⟩
  refine ⟨(still_cons (still_read rfl rfl rfl rfl rfl (x_load1 rfl (hst.get 9 rfl) (by kernel_rfl) rfl) (beqA_int _ _)) (still_cons (still_read rfl rfl rfl rfl rfl (x_load1 rfl (hst.get 8 rfl) (by kernel_rfl) rfl) (beqA_int _ _)) still_nil)), ?_⟩
  refine p_call rfl rfl (x_call rfl rfl rfl (by kernel_rfl)) (fun _ => rfl) (w_of_int64 hG _ _ hst) ?_
  rintro _ σ ⟨b11, b12, rfl, hst⟩
  refine ⟨still_nil, ?_⟩
  refine p_mk hst rfl rfl (x_buildS (e := 89) (m := 1) (z := [.nilFunc]) (cs := [.func 74 [] [.ptr b3 0, .ptr b4 0], .func 74 [] [.ptr b5 0, .ptr b6 0], .func 74 [] [.ptr b7 0, .ptr b8 0], .func 126 [] [.ptr b9 0, .ptr b10 0], .func 126 [] [.ptr b11 0, .ptr b12 0]]) (by kernel_rfl) (by kernel_rfl) (by kernel_rfl) (by kernel_rfl) (by rfl)) (fun _ => rfl) (fun σ b13 hst => ?_)
  have hq := hst.keeps (M := [_, _, _, _, _, _, _, _, _, _, _, _, _])
  refine p_callV rfl rfl (x_call rfl rfl rfl (by kernel_rfl)) (fun _ => rfl) (call_keeps (w_decided hG hq (RFuns.slice (RFuns.cons (rf_87 hG (KP.adds_get 10 rfl) (KP.adds_get 9 rfl)) (RFuns.cons (rf_87 hG (KP.adds_get 8 rfl) (KP.adds_get 7 rfl)) (RFuns.cons (rf_87 hG (KP.adds_get 6 rfl) (KP.adds_get 5 rfl)) (RFuns.cons (rf_113 hG (KP.adds_get 4 rfl) (KP.adds_get 3 rfl)) (RFuns.cons (rf_113 hG (KP.adds_get 2 rfl) (KP.adds_get 1 rfl)) RFuns.nil))))) (KP.adds_get 0 rfl) rfl (Nat.le_refl _) (by decide)))) (fun σ hst => ?_)
  clear hq
  refine ⟨still_nil, ?_⟩
  refine evPlan_val rfl rfl (x_assign rfl) rfl ?_
  refine evPlan_nil ?_
  refine thenQ_normal ?_
  refine ev_ret ?_
  exact end_ret1 rfl rfl ⟨rfl, hst⟩
theorem w_compareId {G : Cx} (hG : Plain G) {K : KP} (x y : XId) {σ : AHeap} {L : Own} (hst : St σ K L) : EvCall Tryz.prog G 80 [.agg [.int .i64 x.thread, .int .i64 x.index], .agg [.int .i64 y.thread, .int .i64 y.index]] σ fun v σ' => v = .int .i64 (cmpId x y) ∧ St σ' K L := by
  refine ev_body hG Tryz.func80 rfl (t := (PT.leaf.put (some (.agg [.int .i64 x.thread, .int .i64 x.index])) 0).put (some (.agg [.int .i64 y.thread, .int .i64 y.index])) 1) (by rfl) ?_
  refine ev_seq ?_
  refine ev_region rfl ?_
  refine o_ptr hst rfl (x_box rfl rfl) (fun _ => rfl) (fun σ b1 hst => ?_)
  refine o_ptr hst rfl (x_box rfl rfl) (fun _ => rfl) (fun σ b2 hst => ?_)
  refine evOps_val rfl (x_assign rfl) rfl ?_
  refine evOps_nil ?_
  refine thenQ_normal ?_
  refine ev_seq ?_
  refine ev_region_plan (l := [(0, []), (1, []), (2, []), (3, []), (5, []), (6, []), (7, []), (8, []), (4, [6, 8]), (9, []), (10, []), (11, []), (12, [])]) (by kernel_rfl) (by kernel_rfl) ?_
  refine evPlan_val rfl rfl (x_field rfl (k := 0) (by kernel_rfl)) rfl ?_
  refine evPlan_val rfl rfl (x_load1 rfl (hst.get 1 rfl) (by kernel_rfl) rfl) rfl ?_
  refine evPlan_val rfl rfl (x_field rfl (k := 0) (by kernel_rfl)) rfl ?_
  refine evPlan_val rfl rfl (x_load1 rfl (hst.get 0 rfl) (by kernel_rfl) rfl) rfl ?_
  refine evPlan_val rfl rfl (x_field rfl (k := 1) (by kernel_rfl)) rfl ?_
  refine evPlan_val rfl rfl (x_load1 rfl (hst.get 1 rfl) (by kernel_rfl) rfl) rfl ?_
  refine evPlan_val rfl rfl (x_field rfl (k := 1) (by kernel_rfl)) rfl ?_
  refine evPlan_val rfl rfl (x_load1 rfl (hst.get 0 rfl) (by kernel_rfl) rfl) rfl ?_
  refine p_call rfl rfl (x_call rfl rfl rfl (by kernel_rfl)) (fun _ => rfl) (w_of_int hG _ _ hst) ?_
  rintro _ σ ⟨b3, b4, rfl, hst⟩
  refine ⟨(still_cons (still_read rfl rfl rfl rfl rfl (x_load1 rfl (hst.get 3 rfl) (by kernel_rfl) rfl) (beqA_int _ _)) (still_cons (still_read rfl rfl rfl rfl rfl (x_load1 rfl (hst.get 2 rfl) (by kernel_rfl) rfl) (beqA_int _ _)) still_nil)), ?_⟩
  refine p_call rfl rfl (x_call rfl rfl rfl (by kernel_rfl)) (fun _ => rfl) (w_of_int hG _ _ hst) ?_
  rintro _ σ ⟨b5, b6, rfl, hst⟩
  refine ⟨still_nil, ?_⟩
  refine p_mk hst rfl rfl (x_buildS (e := 89) (m := 1) (z := [.nilFunc]) (cs := [.func 74 [] [.ptr b3 0, .ptr b4 0], .func 74 [] [.ptr b5 0, .ptr b6 0]]) (by kernel_rfl) (by kernel_rfl) (by kernel_rfl) (by kernel_rfl) (by rfl)) (fun _ => rfl) (fun σ b7 hst => ?_)
  have hq := hst.keeps (M := [_, _, _, _, _, _, _])
  refine p_callV rfl rfl (x_call rfl rfl rfl (by kernel_rfl)) (fun _ => rfl) (call_keeps (w_decided hG hq (RFuns.slice (RFuns.cons (rf_87 hG (KP.adds_get 4 rfl) (KP.adds_get 3 rfl)) (RFuns.cons (rf_87 hG (KP.adds_get 2 rfl) (KP.adds_get 1 rfl)) RFuns.nil)) (KP.adds_get 0 rfl) rfl (Nat.le_refl _) (by decide)))) (fun σ hst => ?_)
  clear hq
  refine ⟨still_nil, ?_⟩
  refine evPlan_val rfl rfl (x_assign rfl) rfl ?_
  refine evPlan_nil ?_
  refine thenQ_normal ?_
  refine ev_ret ?_
  exact end_ret1 rfl rfl ⟨rfl, hst⟩
end Go.Ev
namespace Go.Ev
variable [Env]
section
variable {α : Type} {c : α → α → Int}
theorem compL_snoc : ∀ (l : List α) (p x : α), compL c p (l ++ [x]) = compL c p l ++ (if c x ((p :: l).getLast (by simp)) = 0 then [] else [x])
  | [], p, x => by
    show (if c x p = 0 then [] else [x]) = _
    rfl
  | y :: l, p, x => by
    have ih := compL_snoc l y x
    show (if c y p = 0 then compL c y (l ++ [x]) else y :: compL c y (l ++ [x])) = (if c y p = 0 then compL c y l else y :: compL c y l) ++ _
    rw [ih, List.getLast_cons (List.cons_ne_nil _ _)]
    split <;> simp
theorem compact_succ {l : List α} {i : Nat} {x y : α} (hy : l[i]? = some y) (hx : l[i + 1]? = some x) : compact c (l.take (i + 2)) = compact c (l.take (i + 1)) ++ (if c x y = 0 then [] else [x]) := by
  cases l with
  | nil => simp at hy
  | cons p l =>
    have hx' : l[i]? = some x := by simpa using hx
    have e1 : l.take (i + 1) = l.take i ++ [x] := by rw [List.take_add_one, hx']; rfl
    rw [show i + 2 = (i + 1) + 1 from rfl, List.take_succ_cons, List.take_succ_cons]
    show p :: compL c p (l.take (i + 1)) = p :: (compL c p (l.take i) ++ _)
    refine congrArg (p :: ·) ?_
    have hq := compL_snoc (c := c) (l.take i) p x
    rw [← e1] at hq
    have hlast : (p :: l.take i).getLast (by simp) = y := by
      rw [List.getLast_eq_getElem]
      have hi : i ≤ l.length := by have := (List.getElem?_eq_some_iff.1 hx').1; omega
      have h2 : (p :: l.take i)[i]? = some y := by rw [← List.take_succ_cons, List.getElem?_take, if_pos (by omega)]; exact hy
      obtain ⟨h3, h4⟩ := List.getElem?_eq_some_iff.1 h2
      rw [← h4]
      congr 1
      simp only [List.length_cons, List.length_take]
      omega
    rw [hlast] at hq
    rw [e1]
    rw [e1] at hq
    exact hq
theorem compL_length : ∀ (l : List α) (p : α), (compL c p l).length ≤ l.length
  | [], _ => Nat.le_refl _
  | y :: l, p => by
    have := compL_length l y
    show (if c y p = 0 then compL c y l else y :: compL c y l).length ≤ _
    split <;> simp <;> omega
theorem compact_length (l : List α) : (compact c l).length ≤ l.length := by
  cases l with
  | nil => exact Nat.le_refl _
  | cons p l => exact Nat.succ_le_succ (compL_length l p)
theorem put_step {A l : List α} {x : α} (hA : A.length < l.length) : (A ++ l.drop A.length).set A.length x = (A ++ [x]) ++ l.drop (A ++ [x]).length := by
  rw [List.set_append_right _ _ (Nat.le_refl _), Nat.sub_self, List.drop_eq_getElem_cons hA, List.set_cons_zero, List.append_assoc, List.length_append]
  rfl
end
def XG.nil : XG := ⟨[], [], [], []⟩
theorem HasG.zero {K : KP} : HasG K XG.nil .nilSlice .nilSlice .nilSlice .nilSlice := ⟨.inl ⟨rfl, rfl⟩, .inl ⟨rfl, rfl⟩, .inl ⟨rfl, rfl⟩, .inl ⟨rfl, rfl⟩⟩
structure RowG (K : KP) (ls : List XG) (cells : List AV) : Prop where
  len : cells.length = ls.length * 4
  at_ : ∀ (i : Nat) (x : XG), ls[i]? = some x → ∃ a b c d, (cells.drop (i * 4)).take 4 = [a, b, c, d] ∧ HasG K x a b c d
def RG (K : KP) (g : XG) (vs : List AV) : Prop := ∃ a b c d, vs = [a, b, c, d] ∧ HasG K g a b c d
theorem RG.mono {K K' : KP} (hk : KP.le K K') {g : XG} {vs : List AV} (h : RG K g vs) : RG K' g vs := by
  obtain ⟨a, b, c, d, h1, h2⟩ := h
  exact ⟨a, b, c, d, h1, h2.mono hk⟩
theorem RG.leaf {K : KP} (g : XG) (vs : List AV) (h : RG K g vs) : allLeaf vs = true := by
  obtain ⟨a, b, c, d, rfl, h2⟩ := h
  exact allLeaf_cons h2.init.leaf.2 (allLeaf_cons h2.threads.leaf.2 (allLeaf_cons h2.from_.leaf.2 (allLeaf_cons h2.order.leaf.2 allLeaf_nil)))
section
variable {K : KP} {ls : List XG} {cells : List AV}
theorem RowG.mono {K' : KP} (h : RowG K ls cells) (hk : KP.le K K') : RowG K' ls cells := ⟨h.len, fun i x hx => let ⟨a, b, c, d, h1, h2⟩ := h.at_ i x hx; ⟨a, b, c, d, h1, h2.mono hk⟩⟩
theorem RowG.rd (h : RowG K ls cells) {i : Nat} {x : XG} (hx : ls[i]? = some x) {off : Nat} (ho : off = i * 4) : ∃ a b c d, (cells.drop off).take 4 = [a, b, c, d] ∧ HasG K x a b c d ∧ off + 4 ≤ cells.length := by
  subst ho
  obtain ⟨a, b, c, d, h1, h2⟩ := h.at_ i x hx
  refine ⟨a, b, c, d, h1, h2, ?_⟩
  have := (List.getElem?_eq_some_iff.1 hx).1
  rw [h.len]; omega
theorem RowG.wr (h : RowG K ls cells) {i : Nat} {x : XG} (hi : i < ls.length) {a b c d : AV} (hg : HasG K x a b c d) {off : Nat} (ho : off = i * 4) : RowG K (ls.set i x) (splice [a, b, c, d] cells off) := by
  subst ho
  have hl : i * 4 + [a, b, c, d].length ≤ cells.length := by rw [h.len]; show i * 4 + 4 ≤ _; omega
  have hs := splice_eq [a, b, c, d] cells (i * 4) hl
  rw [hs]
  have h4 : [a, b, c, d].length = 4 := rfl
  rw [h4]
  have hlt : (cells.take (i * 4)).length = i * 4 := by rw [List.length_take]; have : i * 4 + 4 ≤ cells.length := hl; omega
  refine ⟨by rw [List.length_set, List.length_append, List.length_append, hlt, List.length_drop, h4, h.len]; omega, fun j y hy => ?_⟩
  by_cases e : i = j
  · subst e
    rw [List.getElem?_set_self hi] at hy; cases hy
    refine ⟨a, b, c, d, ?_, hg⟩
    rw [List.append_assoc, List.drop_append, hlt, Nat.sub_self, List.drop_of_length_le (by omega)]
    rfl
  · rw [List.getElem?_set_ne e] at hy
    obtain ⟨a', b', c', d', h1, h2⟩ := h.at_ j y hy
    refine ⟨a', b', c', d', ?_, h2⟩
    rw [← h1]
    refine List.ext_getElem? fun t => ?_
    rw [List.getElem?_take, List.getElem?_take]
    by_cases ht : t < 4
    · rw [if_pos ht, if_pos ht, List.getElem?_drop, List.getElem?_drop]
      by_cases hj : j < i
      · rw [List.append_assoc, List.getElem?_append_left (by rw [hlt]; omega), List.getElem?_take, if_pos (by omega)]
      · rw [List.append_assoc, List.getElem?_append_right (by rw [hlt]; omega), List.getElem?_append_right (by rw [hlt, h4]; omega), hlt, h4, List.getElem?_drop]
        congr 1; omega
    · rw [if_neg ht, if_neg ht]
theorem RowG.clr (h : RowG K ls cells) {k : Nat} (hk : k ≤ ls.length) {off : Nat} (ho : off = k * 4) {zs : List AV} (hz : zs = List.replicate ((ls.length - k) * 4) .nilSlice) : RowG K (ls.take k ++ List.replicate (ls.length - k) XG.nil) (splice zs cells off) := by
  subst ho hz
  have hl : k * 4 + (List.replicate ((ls.length - k) * 4) AV.nilSlice).length = cells.length := by rw [h.len, List.length_replicate, ← Nat.add_mul]; congr 1; omega
  rw [splice_eq _ cells (k * 4) (by omega), hl, List.drop_length, List.append_nil]
  have hlt : (cells.take (k * 4)).length = k * 4 := by rw [List.length_take]; omega
  have hrl : (List.replicate ((ls.length - k) * 4) AV.nilSlice).length = (ls.length - k) * 4 := List.length_replicate
  refine ⟨by rw [List.length_append, List.length_append, hlt, hrl, List.length_take, List.length_replicate, ← Nat.add_mul]; congr 1; omega, fun j y hy => ?_⟩
  have htk : (ls.take k).length = k := by rw [List.length_take]; omega
  by_cases hj : j < k
  · rw [List.getElem?_append_left (by omega), List.getElem?_take, if_pos hj] at hy
    obtain ⟨a', b', c', d', h1, h2⟩ := h.at_ j y hy
    refine ⟨a', b', c', d', ?_, h2⟩
    rw [← h1]
    refine List.ext_getElem? fun t => ?_
    rw [List.getElem?_take, List.getElem?_take]
    by_cases ht : t < 4
    · rw [if_pos ht, if_pos ht, List.getElem?_drop, List.getElem?_drop, List.getElem?_append_left (by rw [hlt]; omega), List.getElem?_take, if_pos (by omega)]
    · rw [if_neg ht, if_neg ht]
  · rw [List.getElem?_append_right (by omega), htk, List.getElem?_replicate] at hy
    split at hy
    · rename_i hjk
      cases hy
      refine ⟨.nilSlice, .nilSlice, .nilSlice, .nilSlice, ?_, HasG.zero⟩
      rw [List.drop_append, hlt, List.drop_of_length_le (by rw [hlt]; omega), List.nil_append, List.drop_replicate, List.take_replicate]
      rw [Nat.min_eq_left (by omega)]
      rfl
    · cases hy
theorem RowG.hasS (h : RowG K ls cells) {b e n : Nat} {c : Cap} (hb : K b (.row cells e false)) (hn : n ≤ ls.length) (hc : CapOK 4 n c) (hl : ls.length ≤ 1048576) : HasS K 4 (RG K) (ls.take n) (.slice b 0 n c) := by
  have hlen : (ls.take n).length = n := by rw [List.length_take]; omega
  refine .inr ⟨b, 0, c, cells, e, false, by rw [hlen], by rw [hlen]; exact hc, hb, by rw [hlen, h.len]; omega, by rw [hlen]; omega, fun i x hx => ?_⟩
  have hi : i < n := by rw [← hlen]; exact (List.getElem?_eq_some_iff.1 hx).1
  rw [List.getElem?_take, if_pos hi] at hx
  rw [Nat.zero_add]
  obtain ⟨a, b, c, d, h1, h2⟩ := h.at_ i x hx
  exact ⟨a, b, c, d, h1, h2⟩
end
section
variable {P : Program} {G : Cx} {ev : Operand → Option AV} {σ : AHeap} {K : KP} {L : Own}
theorem boundsA_from {kk : IntKind} {lo : Operand} {k n cap : Nat} (hlo : ev lo = some (.int kk (.ofNat k))) (hk : k ≤ n) : boundsA ev n cap (some lo) none = some (k, n) := by
  have hb : boundA ev lo n = some k := by
    unfold boundA
    rw [hlo]
    dsimp only
    rw [show Nat.ble k n = true from by rw [Nat.ble_eq]; exact hk]
    rfl
  unfold boundsA
  dsimp only
  rw [hb]
theorem x_from {t e sz b n k : Nat} {kk : IntKind} {c : Cap} {x lo : Operand} (ht : P.underlying t = some (.slice e)) (hj : (P.info? e).map (·.size) = some sz) (hc : c = .known n ∨ c = .upto sz) (hx : ev x = some (.slice b 0 n c)) (hlo : ev lo = some (.int kk (.ofNat k))) (hk : k < n) :
    ∃ c', opX P G ev σ (.slice t x (some lo) none none) = .val (.slice b (0 + k * sz) (n - k) c') σ := by
  rcases hc with rfl | rfl
  · exact ⟨_, x_sliceK ht hj hx (boundsA_from hlo (by omega)) hk⟩
  · exact ⟨_, x_sliceU ht hj hx (boundsA_from hlo (by omega))⟩
theorem x_clear {t e b off n : Nat} {c : Call} {cp : Cap} {x : Operand} {cells zs : List AV} {z : AV} {e' : Nat} (hc : c.callee = .builtin .clear) (ht : c.argTypes[0]? = some t) (ha : c.args.toList = [x]) (hu : P.underlying t = some (.slice e)) (hz : (zeroA P e) = some z) (hzs : cellsA z = some zs)
    (hx : ev x = some (.slice b off n cp)) (hn : n ≠ 0) (hb : σ.m.get b = some (.row cells e' false)) (hleaf : allLeaf (timesN zs n) = true) (h1 : 1 ≤ zs.length) (hl : off + (timesN zs n).length ≤ cells.length) :
    opX P G ev σ (.call c) = .val (.tuple []) (σ.setObj b (.row (splice (timesN zs n) cells off) e' false)) := by
  refine x_heavy (by simp [kindOf, hc]) ?_
  have he : evs ev [x] = some [.slice b off n cp] := by
    unfold evs allSome
    simp only [hx]
  have hcl : clearA P σ c.argTypes (.slice b off n cp) = some (σ.setObj b (.row (splice (timesN zs n) cells off) e' false)) := by
    unfold clearA
    rw [ht]
    dsimp only
    rw [hu]
    dsimp only
    have hn' : Nat.beq n 0 = false := by cases n with | zero => exact absurd rfl hn | succ n => rfl
    rw [hn', hz]
    simp only [Option.bind_some, hzs, hb, cond_false, hleaf, Bool.true_and, lenN_eq]
    rw [show Nat.ble 1 zs.length = true from by rw [Nat.ble_eq]; exact h1, show Nat.ble (off + (timesN zs n).length) cells.length = true from by rw [Nat.ble_eq]; exact hl]
    rfl
  simp only [heavyA, hc, ha, he, hcl]
theorem boundsA_to {kk : IntKind} {hi : Operand} {k n cap : Nat} (hhi : ev hi = some (.int kk (.ofNat k))) (hk : k ≤ cap) : boundsA ev n cap none (some hi) = some (0, k) := by
  have hb : boundA ev hi cap = some k := by
    unfold boundA
    rw [hhi]
    dsimp only
    rw [show Nat.ble k cap = true from by rw [Nat.ble_eq]; exact hk]
    rfl
  unfold boundsA
  dsimp only
  rw [hb]
theorem x_to {t e sz b n k : Nat} {kk : IntKind} {c : Cap} {x hi : Operand} (ht : P.underlying t = some (.slice e)) (hj : (P.info? e).map (·.size) = some sz) (hc : c = .known n ∨ c = .upto sz) (hx : ev x = some (.slice b 0 n c)) (hhi : ev hi = some (.int kk (.ofNat k))) (hk : k ≤ n) (hn : 0 < n) :
    opX P G ev σ (.slice t x none (some hi) none) = .val (.slice b 0 k c) σ := by
  rcases hc with rfl | rfl
  · have h := x_sliceK (P := P) (G := G) (σ := σ) ht hj hx (boundsA_to hhi hk) hn
    rw [Nat.zero_mul, Nat.add_zero, Nat.sub_zero, Nat.sub_zero] at h
    exact h
  · have h := x_sliceU (P := P) (G := G) (σ := σ) ht hj hx (boundsA_to hhi hk)
    rw [Nat.zero_mul, Nat.add_zero, Nat.sub_zero] at h
    exact h
end
section
variable {P : Program} {G : Cx} {n : Nat} {t : PT AV} {σ : AHeap} {K : KP} {L : Own} {Q : Ex → PT AV → AHeap → Prop} {ops : Array Oper} {o : Oper} {l : List Oper}
theorem o_from {ty e sz b len k : Nat} {kk : IntKind} {c : Cap} {xo lo : Operand} {t' : AV → PT AV} (hw : wantedA ops t o = some true) (ho : o.op = .slice ty xo (some lo) none none) (ht : P.underlying ty = some (.slice e)) (hj : (P.info? e).map (·.size) = some sz) (hc : c = .known len ∨ c = .upto sz)
    (hx : evalT G t xo = some (.slice b 0 len c)) (hlo : evalT G t lo = some (.int kk (.ofNat k))) (hk : k < len) (hp : ∀ v, putT t n o.dst v = some (t' v)) (h : ∀ c', EvOps P G ops n l (t' (.slice b (0 + k * sz) (len - k) c')) σ Q) : EvOps P G ops n (o :: l) t σ Q := by
  obtain ⟨c', hc'⟩ := x_from (G := G) (σ := σ) ht hj hc hx hlo hk
  exact evOps_val hw (by rw [ho]; exact hc') (hp _) (h c')
theorem o_setV {b : Nat} {ob' : AObj} {L' : Own} {v : AV} {t' : PT AV} (hs : St σ K L) (hu : OwnPut b ob' L L') (hw : wantedA ops t o = some true) (hv : opX P G (evalT G t) σ o.op = .val v (σ.setObj b ob')) (hp : putT t n o.dst v = some t')
    (h : ∀ σ', St σ' K L' → EvOps P G ops n l t' σ' Q) : EvOps P G ops n (o :: l) t σ Q := evOps_val hw hv hp (h _ (hs.upd hu))
end
theorem eqC_eq0 {x y : Int} (h : eqI x y = true) : x = y := by rw [eqI_eq] at h; simpa using h
theorem eqC_ne {x y : Int} (h : eqI x y = false) : x ≠ y := by rw [eqI_eq] at h; simpa using h
theorem at_drop {α : Type} {A l : List α} {i : Nat} {x : α} (hx : l[i]? = some x) (h : A.length ≤ i) : (A ++ l.drop A.length)[i]? = some x := by
  rw [List.getElem?_append_right h, List.getElem?_drop, Nat.add_sub_cancel' h]; exact hx
theorem compact_one1 {α : Type} {c : α → α → Int} {l : List α} (h : 2 ≤ l.length) : compact c (l.take (0 + 1)) = l.take (0 + 1) := by
  cases l with
  | nil => simp at h
  | cons x l => rfl
theorem cut_len {α : Type} {A l : List α} (h : A.length ≤ l.length) : (A ++ l.drop A.length).length = l.length := by rw [List.length_append, List.length_drop]; omega
theorem take_cut {α : Type} {A l : List α} : (A ++ l.drop A.length).take A.length = A := by simp
end Go.Ev
namespace Go.Ev
variable [Env]
open Go.Proofs
set_option maxRecDepth 4000
set_option maxHeartbeats 8000000
theorem w_CFe {G : Cx} (hG : Plain G) {K : KP} {g : Nat} {c : List XEv → List XEv → Int} (hgo : isGo Tryz.prog g = true) {l1 l2 : List (List XEv)} {v1 v2 : AV} {σ : AHeap} {L : Own} (hst : St σ K L) (h1 : HasS K 1 (RL K 5 REv) l1 v1) (h2 : HasS K 1 (RL K 5 REv) l2 v2)
    (hcall : ∀ x y u w σ L, St σ K L → HasS K 5 REv x u → HasS K 5 REv y w → EvCall Tryz.prog G g [u, w] σ fun v σ' => v = .int .i64 (c x y) ∧ St σ' K L) :
    EvCall Tryz.prog G 42 [v1, v2, .func g [] []] σ fun v σ' => v = .int .i64 (cmpL c l1 l2) ∧ St σ' K L := by
  refine ev_body hG Tryz.func42 rfl (t := ((PT.leaf.put (some (v1)) 0).put (some (v2)) 1).put (some (.func g [] [])) 2) (by rfl) ?_
  refine ev_seq ?_
  refine ev_region rfl ?_
  refine evOps_val rfl (x_assign rfl) rfl ?_
  refine evOps_nil ?_
  refine thenQ_normal ?_
  refine ev_seq ?_
  refine ev_seq ?_
  refine ev_region rfl ?_
  refine evOps_val rfl (x_move rfl) rfl ?_
  refine evOps_val rfl (x_len' h1 rfl rfl rfl (e := 70) (by kernel_rfl) rfl) rfl ?_
  refine evOps_val rfl (x_move rfl) rfl ?_
  refine evOps_nil ?_
  refine thenQ_normal ?_
  refine ev_block ?_
  obtain ⟨LL1, hst, hLL1⟩ := hst.named
  refine ev_loopW [6, 7, 8, 9, 10, 13, 14, 15, 16, 17, 18, 19, 20, 21, 22, 23, 24, 25, 26, 27, 28, 29, 30, 31, 32, 33] (fun j t σ => ∃ (i : Nat), j + i = l1.length ∧ cmpL c l1 l2 = cmpL c (l1.drop i) (l2.drop i) ∧ t.get 13 = some (.int .i64 (.ofNat i)) ∧ St σ K LL1) (l1.length) ⟨0, rfl, rfl, rfl, hst⟩ ?_
  clear hst; intro j2 t σ hoff hI; obtain ⟨i, hj2, he2, hv13, hst⟩ := hI
  subst hLL1
  replace hoff := hoff.ex8 rfl rfl; obtain ⟨o6, o7, o8, o9, o10, o13, o14, o15, hoff⟩ := hoff
  replace hoff := hoff.ex8 rfl rfl; obtain ⟨o16, o17, o18, o19, o20, o21, o22, o23, hoff⟩ := hoff
  replace hoff := hoff.ex8 rfl rfl; obtain ⟨o24, o25, o26, o27, o28, o29, o30, o31, hoff⟩ := hoff
  replace hoff := hoff.ex1 rfl; obtain ⟨o32, hoff⟩ := hoff
  replace hoff := hoff.ex1 rfl; obtain ⟨o33, hoff⟩ := hoff
  obtain rfl := hoff.nil; clear hoff
  replace hv13 : o13 = some _ := hv13; subst hv13
  refine ev_seq ?_
  refine ev_region rfl ?_
  refine evOps_val rfl (x_bin rfl rfl rfl) rfl ?_
  refine evOps_nil ?_
  refine thenQ_normal ?_
  refine ev_seq ?_
  refine ev_cond2 rfl (fun h14 => ?_) (fun h14 => ?_)
  · skip
    refine ev_skip ?_
    refine thenQ_normal ?_
    refine ev_seq ?_
    refine ev_block ?_
    refine ev_seq ?_
    refine ev_region rfl ?_
    refine evOps_val rfl (x_move rfl) rfl ?_
    obtain ⟨x16, hx16, hi16⟩ := at_lt h14
    refine o_idx (e := 70) (m := 1) h1 hx16 rfl rfl (by kernel_rfl) (by kernel_rfl) rfl rfl (fun _ => rfl) (fun p16 vs16 hp16 hl16 hr16 => ?_)
    have hr16' := hr16; obtain ⟨v16, rfl, hk16⟩ := hr16'
    refine evOps_val rfl (x_pload1 hst hp16 rfl (by kernel_rfl) rfl) rfl ?_
    refine evOps_val rfl (x_assign rfl) rfl ?_
    refine evOps_val rfl (x_assign rfl) rfl ?_
    refine evOps_nil ?_
    refine thenQ_normal ?_
    refine ev_seq ?_
    refine ev_seq ?_
    refine ev_region rfl ?_
    refine evOps_val rfl (x_move rfl) rfl ?_
    refine evOps_val rfl (x_move rfl) rfl ?_
    refine evOps_val rfl (x_len' h2 rfl rfl rfl (e := 70) (by kernel_rfl) rfl) rfl ?_
    refine evOps_val rfl (x_bin rfl rfl rfl) rfl ?_
    refine evOps_nil ?_
    refine thenQ_normal ?_
    refine ev_cond2 rfl (fun h21 => ?_) (fun h21 => ?_)
    · skip
      refine ev_seq ?_
      refine ev_region rfl ?_
      refine evOps_val rfl (x_assign rfl) rfl ?_
      refine evOps_nil ?_
      refine thenQ_normal ?_
      refine ev_ret ?_
      refine thenQ_ret (blockQ_ret (thenQ_ret (loopQ_ret (blockQ_ret (thenQ_ret (?_))))))
      exact end_ret1 rfl rfl ⟨congrArg (AV.int .i64) (by symm; rw [he2]; exact cmpL_more hx16 (ge_of_ge h21)), hst⟩
    · skip
      refine ev_skip ?_
      refine thenQ_normal ?_
      refine ev_seq ?_
      refine ev_region rfl ?_
      refine evOps_val rfl (x_move rfl) rfl ?_
      refine evOps_val rfl (x_move rfl) rfl ?_
      obtain ⟨x24, hx24⟩ := at_of (lt_of_ge h21)
      refine o_idx (e := 70) (m := 1) h2 hx24 rfl rfl (by kernel_rfl) (by kernel_rfl) rfl rfl (fun _ => rfl) (fun p24 vs24 hp24 hl24 hr24 => ?_)
      have hr24' := hr24; obtain ⟨v24, rfl, hk24⟩ := hr24'
      refine evOps_val rfl (x_pload1 hst hp24 rfl (by kernel_rfl) rfl) rfl ?_
      refine evOps_val rfl (x_assign rfl) rfl ?_
      refine evOps_nil ?_
      refine thenQ_normal ?_
      refine ev_seq ?_
      refine ev_region rfl ?_
      refine evOps_val rfl (x_move rfl) rfl ?_
      refine evOps_val rfl (x_move rfl) rfl ?_
      refine evOps_val rfl (x_move rfl) rfl ?_
      refine o_callV rfl (x_call rfl rfl rfl hgo) (fun _ => rfl) (hcall _ _ _ _ _ _ hst hk16 hk24) (fun σ hst => ?_)
      refine evOps_val rfl (x_assign rfl) rfl ?_
      refine evOps_nil ?_
      refine thenQ_normal ?_
      refine ev_seq ?_
      refine ev_region rfl ?_
      refine evOps_val rfl (x_move rfl) rfl ?_
      refine evOps_val rfl (x_bin rfl rfl rfl) rfl ?_
      refine evOps_nil ?_
      refine thenQ_normal ?_
      refine ev_cond2 rfl (fun h31 => ?_) (fun h31 => ?_)
      · skip
        refine ev_seq ?_
        refine ev_region rfl ?_
        refine evOps_val rfl (x_move rfl) rfl ?_
        refine evOps_val rfl (x_assign rfl) rfl ?_
        refine evOps_nil ?_
        refine thenQ_normal ?_
        refine ev_ret ?_
        refine blockQ_ret (thenQ_ret (loopQ_ret (blockQ_ret (thenQ_ret (?_)))))
        exact end_ret1 rfl rfl ⟨congrArg (AV.int .i64) (by symm; rw [he2]; exact cmpL_stop hx16 hx24 (notB_t h31)), hst⟩
      · skip
        refine ev_skip ?_
        refine blockQ_normal ?_
        refine thenQ_normal ?_
        refine ev_region rfl ?_
        refine evOps_val rfl (x_bin rfl rfl rfl) rfl ?_
        refine evOps_val rfl (x_move rfl) rfl ?_
        refine evOps_nil ?_
        refine loopQ_normal ⟨j2 - 1, by omega, (by (iterate 50 refine OffW.put rfl ?_); exact OffW.refl _ _), i + 1, by omega, he2.trans (cmpL_step hx16 hx24 (notB_f h31)), congrArg (fun z => some (AV.int .i64 z)) (wr_succ (by have := h1.len_le; omega)), hst⟩
  · skip
    refine ev_exit ?_
    refine thenQ_exit ?_
    refine loopQ_exit ?_
    refine blockQ_exit ?_
    refine thenQ_normal ?_
    refine ev_seq ?_
    refine ev_seq ?_
    refine ev_region rfl ?_
    refine evOps_val rfl (x_move rfl) rfl ?_
    refine evOps_val rfl (x_len' h1 rfl rfl rfl (e := 70) (by kernel_rfl) rfl) rfl ?_
    refine evOps_val rfl (x_move rfl) rfl ?_
    refine evOps_val rfl (x_len' h2 rfl rfl rfl (e := 70) (by kernel_rfl) rfl) rfl ?_
    refine evOps_val rfl (x_bin rfl rfl rfl) rfl ?_
    refine evOps_nil ?_
    refine thenQ_normal ?_
    refine ev_cond2 rfl (fun h38 => ?_) (fun h38 => ?_)
    · skip
      refine ev_seq ?_
      refine ev_region rfl ?_
      refine evOps_val rfl (x_assign rfl) rfl ?_
      refine evOps_nil ?_
      refine thenQ_normal ?_
      refine ev_ret ?_
      refine thenQ_ret (?_)
      exact end_ret1 rfl rfl ⟨congrArg (AV.int .i64) (by symm; rw [he2]; exact cmpL_less (lt_no h14) (by omega) (lt_yes h38)), hst⟩
    · skip
      refine ev_skip ?_
      refine thenQ_normal ?_
      refine ev_seq ?_
      refine ev_region rfl ?_
      refine evOps_val rfl (x_assign rfl) rfl ?_
      refine evOps_nil ?_
      refine thenQ_normal ?_
      refine ev_ret ?_
      exact end_ret1 rfl rfl ⟨congrArg (AV.int .i64) (by symm; rw [he2]; exact cmpL_end (lt_no h14) (lt_no h38)), hst⟩
theorem w_CFi {G : Cx} (hG : Plain G) {K : KP} {g : Nat} {c : List XId → List XId → Int} (hgo : isGo Tryz.prog g = true) {l1 l2 : List (List XId)} {v1 v2 : AV} {σ : AHeap} {L : Own} (hst : St σ K L) (h1 : HasS K 1 (RL K 2 RId) l1 v1) (h2 : HasS K 1 (RL K 2 RId) l2 v2)
    (hcall : ∀ x y u w σ L, St σ K L → HasS K 2 RId x u → HasS K 2 RId y w → EvCall Tryz.prog G g [u, w] σ fun v σ' => v = .int .i64 (c x y) ∧ St σ' K L) :
    EvCall Tryz.prog G 47 [v1, v2, .func g [] []] σ fun v σ' => v = .int .i64 (cmpL c l1 l2) ∧ St σ' K L := by
  refine ev_body hG Tryz.func47 rfl (t := ((PT.leaf.put (some (v1)) 0).put (some (v2)) 1).put (some (.func g [] [])) 2) (by rfl) ?_
  refine ev_seq ?_
  refine ev_region rfl ?_
  refine evOps_val rfl (x_assign rfl) rfl ?_
  refine evOps_nil ?_
  refine thenQ_normal ?_
  refine ev_seq ?_
  refine ev_seq ?_
  refine ev_region rfl ?_
  refine evOps_val rfl (x_move rfl) rfl ?_
  refine evOps_val rfl (x_len' h1 rfl rfl rfl (e := 71) (by kernel_rfl) rfl) rfl ?_
  refine evOps_val rfl (x_move rfl) rfl ?_
  refine evOps_nil ?_
  refine thenQ_normal ?_
  refine ev_block ?_
  obtain ⟨LL1, hst, hLL1⟩ := hst.named
  refine ev_loopW [6, 7, 8, 9, 10, 13, 14, 15, 16, 17, 18, 19, 20, 21, 22, 23, 24, 25, 26, 27, 28, 29, 30, 31, 32, 33] (fun j t σ => ∃ (i : Nat), j + i = l1.length ∧ cmpL c l1 l2 = cmpL c (l1.drop i) (l2.drop i) ∧ t.get 13 = some (.int .i64 (.ofNat i)) ∧ St σ K LL1) (l1.length) ⟨0, rfl, rfl, rfl, hst⟩ ?_
  clear hst; intro j2 t σ hoff hI; obtain ⟨i, hj2, he2, hv13, hst⟩ := hI
  subst hLL1
  replace hoff := hoff.ex8 rfl rfl; obtain ⟨o6, o7, o8, o9, o10, o13, o14, o15, hoff⟩ := hoff
  replace hoff := hoff.ex8 rfl rfl; obtain ⟨o16, o17, o18, o19, o20, o21, o22, o23, hoff⟩ := hoff
  replace hoff := hoff.ex8 rfl rfl; obtain ⟨o24, o25, o26, o27, o28, o29, o30, o31, hoff⟩ := hoff
  replace hoff := hoff.ex1 rfl; obtain ⟨o32, hoff⟩ := hoff
  replace hoff := hoff.ex1 rfl; obtain ⟨o33, hoff⟩ := hoff
  obtain rfl := hoff.nil; clear hoff
  replace hv13 : o13 = some _ := hv13; subst hv13
  refine ev_seq ?_
  refine ev_region rfl ?_
  refine evOps_val rfl (x_bin rfl rfl rfl) rfl ?_
  refine evOps_nil ?_
  refine thenQ_normal ?_
  refine ev_seq ?_
  refine ev_cond2 rfl (fun h14 => ?_) (fun h14 => ?_)
  · skip
    refine ev_skip ?_
    refine thenQ_normal ?_
    refine ev_seq ?_
    refine ev_block ?_
    refine ev_seq ?_
    refine ev_region rfl ?_
    refine evOps_val rfl (x_move rfl) rfl ?_
    obtain ⟨x16, hx16, hi16⟩ := at_lt h14
    refine o_idx (e := 71) (m := 1) h1 hx16 rfl rfl (by kernel_rfl) (by kernel_rfl) rfl rfl (fun _ => rfl) (fun p16 vs16 hp16 hl16 hr16 => ?_)
    have hr16' := hr16; obtain ⟨v16, rfl, hk16⟩ := hr16'
    refine evOps_val rfl (x_pload1 hst hp16 rfl (by kernel_rfl) rfl) rfl ?_
    refine evOps_val rfl (x_assign rfl) rfl ?_
    refine evOps_val rfl (x_assign rfl) rfl ?_
    refine evOps_nil ?_
    refine thenQ_normal ?_
    refine ev_seq ?_
    refine ev_seq ?_
    refine ev_region rfl ?_
    refine evOps_val rfl (x_move rfl) rfl ?_
    refine evOps_val rfl (x_move rfl) rfl ?_
    refine evOps_val rfl (x_len' h2 rfl rfl rfl (e := 71) (by kernel_rfl) rfl) rfl ?_
    refine evOps_val rfl (x_bin rfl rfl rfl) rfl ?_
    refine evOps_nil ?_
    refine thenQ_normal ?_
    refine ev_cond2 rfl (fun h21 => ?_) (fun h21 => ?_)
    · skip
      refine ev_seq ?_
      refine ev_region rfl ?_
      refine evOps_val rfl (x_assign rfl) rfl ?_
      refine evOps_nil ?_
      refine thenQ_normal ?_
      refine ev_ret ?_
      refine thenQ_ret (blockQ_ret (thenQ_ret (loopQ_ret (blockQ_ret (thenQ_ret (?_))))))
      exact end_ret1 rfl rfl ⟨congrArg (AV.int .i64) (by symm; rw [he2]; exact cmpL_more hx16 (ge_of_ge h21)), hst⟩
    · skip
      refine ev_skip ?_
      refine thenQ_normal ?_
      refine ev_seq ?_
      refine ev_region rfl ?_
      refine evOps_val rfl (x_move rfl) rfl ?_
      refine evOps_val rfl (x_move rfl) rfl ?_
      obtain ⟨x24, hx24⟩ := at_of (lt_of_ge h21)
      refine o_idx (e := 71) (m := 1) h2 hx24 rfl rfl (by kernel_rfl) (by kernel_rfl) rfl rfl (fun _ => rfl) (fun p24 vs24 hp24 hl24 hr24 => ?_)
      have hr24' := hr24; obtain ⟨v24, rfl, hk24⟩ := hr24'
      refine evOps_val rfl (x_pload1 hst hp24 rfl (by kernel_rfl) rfl) rfl ?_
      refine evOps_val rfl (x_assign rfl) rfl ?_
      refine evOps_nil ?_
      refine thenQ_normal ?_
      refine ev_seq ?_
      refine ev_region rfl ?_
      refine evOps_val rfl (x_move rfl) rfl ?_
      refine evOps_val rfl (x_move rfl) rfl ?_
      refine evOps_val rfl (x_move rfl) rfl ?_
      refine o_callV rfl (x_call rfl rfl rfl hgo) (fun _ => rfl) (hcall _ _ _ _ _ _ hst hk16 hk24) (fun σ hst => ?_)
      refine evOps_val rfl (x_assign rfl) rfl ?_
      refine evOps_nil ?_
      refine thenQ_normal ?_
      refine ev_seq ?_
      refine ev_region rfl ?_
      refine evOps_val rfl (x_move rfl) rfl ?_
      refine evOps_val rfl (x_bin rfl rfl rfl) rfl ?_
      refine evOps_nil ?_
      refine thenQ_normal ?_
      refine ev_cond2 rfl (fun h31 => ?_) (fun h31 => ?_)
      · skip
        refine ev_seq ?_
        refine ev_region rfl ?_
        refine evOps_val rfl (x_move rfl) rfl ?_
        refine evOps_val rfl (x_assign rfl) rfl ?_
        refine evOps_nil ?_
        refine thenQ_normal ?_
        refine ev_ret ?_
        refine blockQ_ret (thenQ_ret (loopQ_ret (blockQ_ret (thenQ_ret (?_)))))
        exact end_ret1 rfl rfl ⟨congrArg (AV.int .i64) (by symm; rw [he2]; exact cmpL_stop hx16 hx24 (notB_t h31)), hst⟩
      · skip
        refine ev_skip ?_
        refine blockQ_normal ?_
        refine thenQ_normal ?_
        refine ev_region rfl ?_
        refine evOps_val rfl (x_bin rfl rfl rfl) rfl ?_
        refine evOps_val rfl (x_move rfl) rfl ?_
        refine evOps_nil ?_
        refine loopQ_normal ⟨j2 - 1, by omega, (by (iterate 50 refine OffW.put rfl ?_); exact OffW.refl _ _), i + 1, by omega, he2.trans (cmpL_step hx16 hx24 (notB_f h31)), congrArg (fun z => some (AV.int .i64 z)) (wr_succ (by have := h1.len_le; omega)), hst⟩
  · skip
    refine ev_exit ?_
    refine thenQ_exit ?_
    refine loopQ_exit ?_
    refine blockQ_exit ?_
    refine thenQ_normal ?_
    refine ev_seq ?_
    refine ev_seq ?_
    refine ev_region rfl ?_
    refine evOps_val rfl (x_move rfl) rfl ?_
    refine evOps_val rfl (x_len' h1 rfl rfl rfl (e := 71) (by kernel_rfl) rfl) rfl ?_
    refine evOps_val rfl (x_move rfl) rfl ?_
    refine evOps_val rfl (x_len' h2 rfl rfl rfl (e := 71) (by kernel_rfl) rfl) rfl ?_
    refine evOps_val rfl (x_bin rfl rfl rfl) rfl ?_
    refine evOps_nil ?_
    refine thenQ_normal ?_
    refine ev_cond2 rfl (fun h38 => ?_) (fun h38 => ?_)
    · skip
      refine ev_seq ?_
      refine ev_region rfl ?_
      refine evOps_val rfl (x_assign rfl) rfl ?_
      refine evOps_nil ?_
      refine thenQ_normal ?_
      refine ev_ret ?_
      refine thenQ_ret (?_)
      exact end_ret1 rfl rfl ⟨congrArg (AV.int .i64) (by symm; rw [he2]; exact cmpL_less (lt_no h14) (by omega) (lt_yes h38)), hst⟩
    · skip
      refine ev_skip ?_
      refine thenQ_normal ?_
      refine ev_seq ?_
      refine ev_region rfl ?_
      refine evOps_val rfl (x_assign rfl) rfl ?_
      refine evOps_nil ?_
      refine thenQ_normal ?_
      refine ev_ret ?_
      exact end_ret1 rfl rfl ⟨congrArg (AV.int .i64) (by symm; rw [he2]; exact cmpL_end (lt_no h14) (lt_no h38)), hst⟩
theorem w_CFE {G : Cx} (hG : Plain G) {K : KP} {g : Nat} {c : XEv → XEv → Int} (hgo : isGo Tryz.prog g = true) {l1 l2 : List (XEv)} {v1 v2 : AV} {σ : AHeap} {L : Own} (hst : St σ K L) (h1 : HasS K 5 (REv) l1 v1) (h2 : HasS K 5 (REv) l2 v2)
    (hcall : ∀ x y σ L, St σ K L → EvCall Tryz.prog G g [.agg (ints x.ints), .agg (ints y.ints)] σ fun v σ' => v = .int .i64 (c x y) ∧ St σ' K L) :
    EvCall Tryz.prog G 76 [v1, v2, .func g [] []] σ fun v σ' => v = .int .i64 (cmpL c l1 l2) ∧ St σ' K L := by
  refine ev_body hG Tryz.func76 rfl (t := ((PT.leaf.put (some (v1)) 0).put (some (v2)) 1).put (some (.func g [] [])) 2) (by rfl) ?_
  refine ev_seq ?_
  refine ev_region rfl ?_
  refine evOps_val rfl (x_assign rfl) rfl ?_
  refine evOps_nil ?_
  refine thenQ_normal ?_
  refine ev_seq ?_
  refine ev_seq ?_
  refine ev_region rfl ?_
  refine evOps_val rfl (x_move rfl) rfl ?_
  refine evOps_val rfl (x_len' h1 rfl rfl rfl (e := 78) (by kernel_rfl) rfl) rfl ?_
  refine evOps_val rfl (x_move rfl) rfl ?_
  refine evOps_nil ?_
  refine thenQ_normal ?_
  refine ev_block ?_
  obtain ⟨LL1, hst, hLL1⟩ := hst.named
  refine ev_loopW [6, 7, 8, 9, 10, 13, 14, 15, 16, 17, 18, 19, 20, 21, 22, 23, 24, 25, 26, 27, 28, 29, 30, 31, 32, 33] (fun j t σ => ∃ (i : Nat), j + i = l1.length ∧ cmpL c l1 l2 = cmpL c (l1.drop i) (l2.drop i) ∧ t.get 13 = some (.int .i64 (.ofNat i)) ∧ St σ K LL1) (l1.length) ⟨0, rfl, rfl, rfl, hst⟩ ?_
  clear hst; intro j2 t σ hoff hI; obtain ⟨i, hj2, he2, hv13, hst⟩ := hI
  subst hLL1
  replace hoff := hoff.ex8 rfl rfl; obtain ⟨o6, o7, o8, o9, o10, o13, o14, o15, hoff⟩ := hoff
  replace hoff := hoff.ex8 rfl rfl; obtain ⟨o16, o17, o18, o19, o20, o21, o22, o23, hoff⟩ := hoff
  replace hoff := hoff.ex8 rfl rfl; obtain ⟨o24, o25, o26, o27, o28, o29, o30, o31, hoff⟩ := hoff
  replace hoff := hoff.ex1 rfl; obtain ⟨o32, hoff⟩ := hoff
  replace hoff := hoff.ex1 rfl; obtain ⟨o33, hoff⟩ := hoff
  obtain rfl := hoff.nil; clear hoff
  replace hv13 : o13 = some _ := hv13; subst hv13
  refine ev_seq ?_
  refine ev_region rfl ?_
  refine evOps_val rfl (x_bin rfl rfl rfl) rfl ?_
  refine evOps_nil ?_
  refine thenQ_normal ?_
  refine ev_seq ?_
  refine ev_cond2 rfl (fun h14 => ?_) (fun h14 => ?_)
  · skip
    refine ev_skip ?_
    refine thenQ_normal ?_
    refine ev_seq ?_
    refine ev_block ?_
    refine ev_seq ?_
    refine ev_region rfl ?_
    refine evOps_val rfl (x_move rfl) rfl ?_
    obtain ⟨x16, hx16, hi16⟩ := at_lt h14
    refine o_idx (e := 78) (m := 5) h1 hx16 rfl rfl (by kernel_rfl) (by kernel_rfl) rfl rfl (fun _ => rfl) (fun p16 vs16 hp16 hl16 hr16 => ?_)
    obtain rfl := hr16
    refine evOps_val rfl (x_ploadW hst hp16 rfl (by kernel_rfl) rfl) rfl ?_
    refine o_ptr hst rfl (x_new (cs := [.int .i64 0, .int .i64 0, .int .i64 0, .int .i64 0, .int .i64 0]) (by kernel_rfl) (by kernel_rfl)) (fun _ => rfl) (fun σ b1 hst => ?_)
    refine evOps_val rfl (x_assign rfl) rfl ?_
    refine o_set0 hst rfl (x_storeC rfl rfl rfl (hst.get 0 rfl) (m := 5) (by kernel_rfl) rfl (Nat.le_of_ble_eq_true rfl) (allLeaf_cons rfl (allLeaf_cons rfl (allLeaf_cons rfl (allLeaf_cons rfl (allLeaf_cons rfl allLeaf_nil))))) (cells' := [_, _, _, _, _]) rfl) rfl (fun σ hst => ?_)
    refine evOps_nil ?_
    refine thenQ_normal ?_
    refine ev_seq ?_
    refine ev_seq ?_
    refine ev_region rfl ?_
    refine evOps_val rfl (x_move rfl) rfl ?_
    refine evOps_val rfl (x_move rfl) rfl ?_
    refine evOps_val rfl (x_len' h2 rfl rfl rfl (e := 78) (by kernel_rfl) rfl) rfl ?_
    refine evOps_val rfl (x_bin rfl rfl rfl) rfl ?_
    refine evOps_nil ?_
    refine thenQ_normal ?_
    refine ev_cond2 rfl (fun h21 => ?_) (fun h21 => ?_)
    · skip
      refine ev_seq ?_
      refine ev_region rfl ?_
      refine evOps_val rfl (x_assign rfl) rfl ?_
      refine evOps_nil ?_
      refine thenQ_normal ?_
      refine ev_ret ?_
      refine thenQ_ret (blockQ_ret (thenQ_ret (loopQ_ret (blockQ_ret (thenQ_ret (?_))))))
      exact end_ret1 rfl rfl ⟨congrArg (AV.int .i64) (by symm; rw [he2]; exact cmpL_more hx16 (ge_of_ge h21)), hst.pop⟩
    · skip
      refine ev_skip ?_
      refine thenQ_normal ?_
      refine ev_seq ?_
      refine ev_region rfl ?_
      refine evOps_val rfl (x_move rfl) rfl ?_
      refine evOps_val rfl (x_move rfl) rfl ?_
      obtain ⟨x24, hx24⟩ := at_of (lt_of_ge h21)
      refine o_idx (e := 78) (m := 5) h2 hx24 rfl rfl (by kernel_rfl) (by kernel_rfl) rfl rfl (fun _ => rfl) (fun p24 vs24 hp24 hl24 hr24 => ?_)
      obtain rfl := hr24
      refine evOps_val rfl (x_ploadW hst hp24 rfl (by kernel_rfl) rfl) rfl ?_
      refine o_ptr hst rfl (x_new (cs := [.int .i64 0, .int .i64 0, .int .i64 0, .int .i64 0, .int .i64 0]) (by kernel_rfl) (by kernel_rfl)) (fun _ => rfl) (fun σ b2 hst => ?_)
      refine o_set0 hst rfl (x_storeC rfl rfl rfl (hst.get 0 rfl) (m := 5) (by kernel_rfl) rfl (Nat.le_of_ble_eq_true rfl) (allLeaf_cons rfl (allLeaf_cons rfl (allLeaf_cons rfl (allLeaf_cons rfl (allLeaf_cons rfl allLeaf_nil))))) (cells' := [_, _, _, _, _]) rfl) rfl (fun σ hst => ?_)
      refine evOps_nil ?_
      refine thenQ_normal ?_
      refine ev_seq ?_
      refine ev_region rfl ?_
      refine evOps_val rfl (x_move rfl) rfl ?_
      refine evOps_val rfl (x_loadN rfl (hst.get 1 rfl) (n := 5) (vs := [_, _, _, _, _]) (by kernel_rfl) (Nat.le_of_ble_eq_true rfl) rfl) rfl ?_
      refine evOps_val rfl (x_loadN rfl (hst.get 0 rfl) (n := 5) (vs := [_, _, _, _, _]) (by kernel_rfl) (Nat.le_of_ble_eq_true rfl) rfl) rfl ?_
      refine o_callV rfl (x_call rfl rfl rfl hgo) (fun _ => rfl) (hcall _ _ _ _ hst) (fun σ hst => ?_)
      refine evOps_val rfl (x_assign rfl) rfl ?_
      refine evOps_nil ?_
      refine thenQ_normal ?_
      refine ev_seq ?_
      refine ev_region rfl ?_
      refine evOps_val rfl (x_move rfl) rfl ?_
      refine evOps_val rfl (x_bin rfl rfl rfl) rfl ?_
      refine evOps_nil ?_
      refine thenQ_normal ?_
      refine ev_cond2 rfl (fun h31 => ?_) (fun h31 => ?_)
      · skip
        refine ev_seq ?_
        refine ev_region rfl ?_
        refine evOps_val rfl (x_move rfl) rfl ?_
        refine evOps_val rfl (x_assign rfl) rfl ?_
        refine evOps_nil ?_
        refine thenQ_normal ?_
        refine ev_ret ?_
        refine blockQ_ret (thenQ_ret (loopQ_ret (blockQ_ret (thenQ_ret (?_)))))
        exact end_ret1 rfl rfl ⟨congrArg (AV.int .i64) (by symm; rw [he2]; exact cmpL_stop hx16 hx24 (notB_t h31)), hst.pop.pop⟩
      · skip
        refine ev_skip ?_
        refine blockQ_normal ?_
        refine thenQ_normal ?_
        refine ev_region rfl ?_
        refine evOps_val rfl (x_bin rfl rfl rfl) rfl ?_
        refine evOps_val rfl (x_move rfl) rfl ?_
        refine evOps_nil ?_
        have hst := hst.pop
        have hst := hst.pop
        refine loopQ_normal ⟨j2 - 1, by omega, (by (iterate 50 refine OffW.put rfl ?_); exact OffW.refl _ _), i + 1, by omega, he2.trans (cmpL_step hx16 hx24 (notB_f h31)), congrArg (fun z => some (AV.int .i64 z)) (wr_succ (by have := h1.len_le; omega)), hst⟩
  · skip
    refine ev_exit ?_
    refine thenQ_exit ?_
    refine loopQ_exit ?_
    refine blockQ_exit ?_
    refine thenQ_normal ?_
    refine ev_seq ?_
    refine ev_seq ?_
    refine ev_region rfl ?_
    refine evOps_val rfl (x_move rfl) rfl ?_
    refine evOps_val rfl (x_len' h1 rfl rfl rfl (e := 78) (by kernel_rfl) rfl) rfl ?_
    refine evOps_val rfl (x_move rfl) rfl ?_
    refine evOps_val rfl (x_len' h2 rfl rfl rfl (e := 78) (by kernel_rfl) rfl) rfl ?_
    refine evOps_val rfl (x_bin rfl rfl rfl) rfl ?_
    refine evOps_nil ?_
    refine thenQ_normal ?_
    refine ev_cond2 rfl (fun h38 => ?_) (fun h38 => ?_)
    · skip
      refine ev_seq ?_
      refine ev_region rfl ?_
      refine evOps_val rfl (x_assign rfl) rfl ?_
      refine evOps_nil ?_
      refine thenQ_normal ?_
      refine ev_ret ?_
      refine thenQ_ret (?_)
      exact end_ret1 rfl rfl ⟨congrArg (AV.int .i64) (by symm; rw [he2]; exact cmpL_less (lt_no h14) (by omega) (lt_yes h38)), hst⟩
    · skip
      refine ev_skip ?_
      refine thenQ_normal ?_
      refine ev_seq ?_
      refine ev_region rfl ?_
      refine evOps_val rfl (x_assign rfl) rfl ?_
      refine evOps_nil ?_
      refine thenQ_normal ?_
      refine ev_ret ?_
      exact end_ret1 rfl rfl ⟨congrArg (AV.int .i64) (by symm; rw [he2]; exact cmpL_end (lt_no h14) (lt_no h38)), hst⟩
theorem w_CFI {G : Cx} (hG : Plain G) {K : KP} {g : Nat} {c : XId → XId → Int} (hgo : isGo Tryz.prog g = true) {l1 l2 : List (XId)} {v1 v2 : AV} {σ : AHeap} {L : Own} (hst : St σ K L) (h1 : HasS K 2 (RId) l1 v1) (h2 : HasS K 2 (RId) l2 v2)
    (hcall : ∀ x y σ L, St σ K L → EvCall Tryz.prog G g [.agg (ints x.ints), .agg (ints y.ints)] σ fun v σ' => v = .int .i64 (c x y) ∧ St σ' K L) :
    EvCall Tryz.prog G 79 [v1, v2, .func g [] []] σ fun v σ' => v = .int .i64 (cmpL c l1 l2) ∧ St σ' K L := by
  refine ev_body hG Tryz.func79 rfl (t := ((PT.leaf.put (some (v1)) 0).put (some (v2)) 1).put (some (.func g [] [])) 2) (by rfl) ?_
  refine ev_seq ?_
  refine ev_region rfl ?_
  refine evOps_val rfl (x_assign rfl) rfl ?_
  refine evOps_nil ?_
  refine thenQ_normal ?_
  refine ev_seq ?_
  refine ev_seq ?_
  refine ev_region rfl ?_
  refine evOps_val rfl (x_move rfl) rfl ?_
  refine evOps_val rfl (x_len' h1 rfl rfl rfl (e := 81) (by kernel_rfl) rfl) rfl ?_
  refine evOps_val rfl (x_move rfl) rfl ?_
  refine evOps_nil ?_
  refine thenQ_normal ?_
  refine ev_block ?_
  obtain ⟨LL1, hst, hLL1⟩ := hst.named
  refine ev_loopW [6, 7, 8, 9, 10, 13, 14, 15, 16, 17, 18, 19, 20, 21, 22, 23, 24, 25, 26, 27, 28, 29, 30, 31, 32, 33] (fun j t σ => ∃ (i : Nat), j + i = l1.length ∧ cmpL c l1 l2 = cmpL c (l1.drop i) (l2.drop i) ∧ t.get 13 = some (.int .i64 (.ofNat i)) ∧ St σ K LL1) (l1.length) ⟨0, rfl, rfl, rfl, hst⟩ ?_
  clear hst; intro j2 t σ hoff hI; obtain ⟨i, hj2, he2, hv13, hst⟩ := hI
  subst hLL1
  replace hoff := hoff.ex8 rfl rfl; obtain ⟨o6, o7, o8, o9, o10, o13, o14, o15, hoff⟩ := hoff
  replace hoff := hoff.ex8 rfl rfl; obtain ⟨o16, o17, o18, o19, o20, o21, o22, o23, hoff⟩ := hoff
  replace hoff := hoff.ex8 rfl rfl; obtain ⟨o24, o25, o26, o27, o28, o29, o30, o31, hoff⟩ := hoff
  replace hoff := hoff.ex1 rfl; obtain ⟨o32, hoff⟩ := hoff
  replace hoff := hoff.ex1 rfl; obtain ⟨o33, hoff⟩ := hoff
  obtain rfl := hoff.nil; clear hoff
  replace hv13 : o13 = some _ := hv13; subst hv13
  refine ev_seq ?_
  refine ev_region rfl ?_
  refine evOps_val rfl (x_bin rfl rfl rfl) rfl ?_
  refine evOps_nil ?_
  refine thenQ_normal ?_
  refine ev_seq ?_
  refine ev_cond2 rfl (fun h14 => ?_) (fun h14 => ?_)
  · skip
    refine ev_skip ?_
    refine thenQ_normal ?_
    refine ev_seq ?_
    refine ev_block ?_
    refine ev_seq ?_
    refine ev_region rfl ?_
    refine evOps_val rfl (x_move rfl) rfl ?_
    obtain ⟨x16, hx16, hi16⟩ := at_lt h14
    refine o_idx (e := 81) (m := 2) h1 hx16 rfl rfl (by kernel_rfl) (by kernel_rfl) rfl rfl (fun _ => rfl) (fun p16 vs16 hp16 hl16 hr16 => ?_)
    obtain rfl := hr16
    refine evOps_val rfl (x_ploadW hst hp16 rfl (by kernel_rfl) rfl) rfl ?_
    refine o_ptr hst rfl (x_new (cs := [.int .i64 0, .int .i64 0]) (by kernel_rfl) (by kernel_rfl)) (fun _ => rfl) (fun σ b1 hst => ?_)
    refine evOps_val rfl (x_assign rfl) rfl ?_
    refine o_set0 hst rfl (x_storeC rfl rfl rfl (hst.get 0 rfl) (m := 2) (by kernel_rfl) rfl (Nat.le_of_ble_eq_true rfl) (allLeaf_cons rfl (allLeaf_cons rfl allLeaf_nil)) (cells' := [_, _]) rfl) rfl (fun σ hst => ?_)
    refine evOps_nil ?_
    refine thenQ_normal ?_
    refine ev_seq ?_
    refine ev_seq ?_
    refine ev_region rfl ?_
    refine evOps_val rfl (x_move rfl) rfl ?_
    refine evOps_val rfl (x_move rfl) rfl ?_
    refine evOps_val rfl (x_len' h2 rfl rfl rfl (e := 81) (by kernel_rfl) rfl) rfl ?_
    refine evOps_val rfl (x_bin rfl rfl rfl) rfl ?_
    refine evOps_nil ?_
    refine thenQ_normal ?_
    refine ev_cond2 rfl (fun h21 => ?_) (fun h21 => ?_)
    · skip
      refine ev_seq ?_
      refine ev_region rfl ?_
      refine evOps_val rfl (x_assign rfl) rfl ?_
      refine evOps_nil ?_
      refine thenQ_normal ?_
      refine ev_ret ?_
      refine thenQ_ret (blockQ_ret (thenQ_ret (loopQ_ret (blockQ_ret (thenQ_ret (?_))))))
      exact end_ret1 rfl rfl ⟨congrArg (AV.int .i64) (by symm; rw [he2]; exact cmpL_more hx16 (ge_of_ge h21)), hst.pop⟩
    · skip
      refine ev_skip ?_
      refine thenQ_normal ?_
      refine ev_seq ?_
      refine ev_region rfl ?_
      refine evOps_val rfl (x_move rfl) rfl ?_
      refine evOps_val rfl (x_move rfl) rfl ?_
      obtain ⟨x24, hx24⟩ := at_of (lt_of_ge h21)
      refine o_idx (e := 81) (m := 2) h2 hx24 rfl rfl (by kernel_rfl) (by kernel_rfl) rfl rfl (fun _ => rfl) (fun p24 vs24 hp24 hl24 hr24 => ?_)
      obtain rfl := hr24
      refine evOps_val rfl (x_ploadW hst hp24 rfl (by kernel_rfl) rfl) rfl ?_
      refine o_ptr hst rfl (x_new (cs := [.int .i64 0, .int .i64 0]) (by kernel_rfl) (by kernel_rfl)) (fun _ => rfl) (fun σ b2 hst => ?_)
      refine o_set0 hst rfl (x_storeC rfl rfl rfl (hst.get 0 rfl) (m := 2) (by kernel_rfl) rfl (Nat.le_of_ble_eq_true rfl) (allLeaf_cons rfl (allLeaf_cons rfl allLeaf_nil)) (cells' := [_, _]) rfl) rfl (fun σ hst => ?_)
      refine evOps_nil ?_
      refine thenQ_normal ?_
      refine ev_seq ?_
      refine ev_region rfl ?_
      refine evOps_val rfl (x_move rfl) rfl ?_
      refine evOps_val rfl (x_loadN rfl (hst.get 1 rfl) (n := 2) (vs := [_, _]) (by kernel_rfl) (Nat.le_of_ble_eq_true rfl) rfl) rfl ?_
      refine evOps_val rfl (x_loadN rfl (hst.get 0 rfl) (n := 2) (vs := [_, _]) (by kernel_rfl) (Nat.le_of_ble_eq_true rfl) rfl) rfl ?_
      refine o_callV rfl (x_call rfl rfl rfl hgo) (fun _ => rfl) (hcall _ _ _ _ hst) (fun σ hst => ?_)
      refine evOps_val rfl (x_assign rfl) rfl ?_
      refine evOps_nil ?_
      refine thenQ_normal ?_
      refine ev_seq ?_
      refine ev_region rfl ?_
      refine evOps_val rfl (x_move rfl) rfl ?_
      refine evOps_val rfl (x_bin rfl rfl rfl) rfl ?_
      refine evOps_nil ?_
      refine thenQ_normal ?_
      refine ev_cond2 rfl (fun h31 => ?_) (fun h31 => ?_)
      · skip
        refine ev_seq ?_
        refine ev_region rfl ?_
        refine evOps_val rfl (x_move rfl) rfl ?_
        refine evOps_val rfl (x_assign rfl) rfl ?_
        refine evOps_nil ?_
        refine thenQ_normal ?_
        refine ev_ret ?_
        refine blockQ_ret (thenQ_ret (loopQ_ret (blockQ_ret (thenQ_ret (?_)))))
        exact end_ret1 rfl rfl ⟨congrArg (AV.int .i64) (by symm; rw [he2]; exact cmpL_stop hx16 hx24 (notB_t h31)), hst.pop.pop⟩
      · skip
        refine ev_skip ?_
        refine blockQ_normal ?_
        refine thenQ_normal ?_
        refine ev_region rfl ?_
        refine evOps_val rfl (x_bin rfl rfl rfl) rfl ?_
        refine evOps_val rfl (x_move rfl) rfl ?_
        refine evOps_nil ?_
        have hst := hst.pop
        have hst := hst.pop
        refine loopQ_normal ⟨j2 - 1, by omega, (by (iterate 50 refine OffW.put rfl ?_); exact OffW.refl _ _), i + 1, by omega, he2.trans (cmpL_step hx16 hx24 (notB_f h31)), congrArg (fun z => some (AV.int .i64 z)) (wr_succ (by have := h1.len_le; omega)), hst⟩
  · skip
    refine ev_exit ?_
    refine thenQ_exit ?_
    refine loopQ_exit ?_
    refine blockQ_exit ?_
    refine thenQ_normal ?_
    refine ev_seq ?_
    refine ev_seq ?_
    refine ev_region rfl ?_
    refine evOps_val rfl (x_move rfl) rfl ?_
    refine evOps_val rfl (x_len' h1 rfl rfl rfl (e := 81) (by kernel_rfl) rfl) rfl ?_
    refine evOps_val rfl (x_move rfl) rfl ?_
    refine evOps_val rfl (x_len' h2 rfl rfl rfl (e := 81) (by kernel_rfl) rfl) rfl ?_
    refine evOps_val rfl (x_bin rfl rfl rfl) rfl ?_
    refine evOps_nil ?_
    refine thenQ_normal ?_
    refine ev_cond2 rfl (fun h38 => ?_) (fun h38 => ?_)
    · skip
      refine ev_seq ?_
      refine ev_region rfl ?_
      refine evOps_val rfl (x_assign rfl) rfl ?_
      refine evOps_nil ?_
      refine thenQ_normal ?_
      refine ev_ret ?_
      refine thenQ_ret (?_)
      exact end_ret1 rfl rfl ⟨congrArg (AV.int .i64) (by symm; rw [he2]; exact cmpL_less (lt_no h14) (by omega) (lt_yes h38)), hst⟩
    · skip
      refine ev_skip ?_
      refine thenQ_normal ?_
      refine ev_seq ?_
      refine ev_region rfl ?_
      refine evOps_val rfl (x_assign rfl) rfl ?_
      refine evOps_nil ?_
      refine thenQ_normal ?_
      refine ev_ret ?_
      exact end_ret1 rfl rfl ⟨congrArg (AV.int .i64) (by symm; rw [he2]; exact cmpL_end (lt_no h14) (lt_no h38)), hst⟩
theorem w_Cmp64 {G : Cx} (hG : Plain G) {K : KP} {l1 l2 : List (Int)} {v1 v2 : AV} {σ : AHeap} {L : Own} (hst : St σ K L) (h1 : HasS K 1 (RInt) l1 v1) (h2 : HasS K 1 (RInt) l2 v2) :
    EvCall Tryz.prog G 51 [v1, v2] σ fun v σ' => v = .int .i64 (cmpL cmpZ l1 l2) ∧ St σ' K L := by
  refine ev_body hG Tryz.func51 rfl (t := (PT.leaf.put (some (v1)) 0).put (some (v2)) 1) (by rfl) ?_
  refine ev_seq ?_
  refine ev_region rfl ?_
  refine evOps_val rfl (x_assign rfl) rfl ?_
  refine evOps_nil ?_
  refine thenQ_normal ?_
  refine ev_seq ?_
  refine ev_seq ?_
  refine ev_region rfl ?_
  refine evOps_val rfl (x_move rfl) rfl ?_
  refine evOps_val rfl (x_len' h1 rfl rfl rfl (e := 2) (by kernel_rfl) rfl) rfl ?_
  refine evOps_val rfl (x_move rfl) rfl ?_
  refine evOps_nil ?_
  refine thenQ_normal ?_
  refine ev_block ?_
  obtain ⟨LL1, hst, hLL1⟩ := hst.named
  refine ev_loopW [4, 5, 6, 7, 8, 11, 12, 13, 14, 15, 16, 17, 18, 19, 20, 21, 22, 23, 24, 25, 26, 27, 28, 29, 30] (fun j t σ => ∃ (i : Nat), j + i = l1.length ∧ cmpL cmpZ l1 l2 = cmpL cmpZ (l1.drop i) (l2.drop i) ∧ t.get 11 = some (.int .i64 (.ofNat i)) ∧ St σ K LL1) (l1.length) ⟨0, rfl, rfl, rfl, hst⟩ ?_
  clear hst; intro j2 t σ hoff hI; obtain ⟨i, hj2, he2, hv11, hst⟩ := hI
  subst hLL1
  replace hoff := hoff.ex8 rfl rfl; obtain ⟨o4, o5, o6, o7, o8, o11, o12, o13, hoff⟩ := hoff
  replace hoff := hoff.ex8 rfl rfl; obtain ⟨o14, o15, o16, o17, o18, o19, o20, o21, hoff⟩ := hoff
  replace hoff := hoff.ex8 rfl rfl; obtain ⟨o22, o23, o24, o25, o26, o27, o28, o29, hoff⟩ := hoff
  replace hoff := hoff.ex1 rfl; obtain ⟨o30, hoff⟩ := hoff
  obtain rfl := hoff.nil; clear hoff
  replace hv11 : o11 = some _ := hv11; subst hv11
  refine ev_seq ?_
  refine ev_region rfl ?_
  refine evOps_val rfl (x_bin rfl rfl rfl) rfl ?_
  refine evOps_nil ?_
  refine thenQ_normal ?_
  refine ev_seq ?_
  refine ev_cond2 rfl (fun h12 => ?_) (fun h12 => ?_)
  · skip
    refine ev_skip ?_
    refine thenQ_normal ?_
    refine ev_seq ?_
    refine ev_block ?_
    refine ev_seq ?_
    refine ev_region rfl ?_
    refine evOps_val rfl (x_move rfl) rfl ?_
    obtain ⟨x14, hx14, hi14⟩ := at_lt h12
    refine o_idx (e := 2) (m := 1) h1 hx14 rfl rfl (by kernel_rfl) (by kernel_rfl) rfl rfl (fun _ => rfl) (fun p14 vs14 hp14 hl14 hr14 => ?_)
    obtain rfl := hr14
    refine evOps_val rfl (x_pload1 hst hp14 rfl (by kernel_rfl) rfl) rfl ?_
    refine evOps_val rfl (x_assign rfl) rfl ?_
    refine evOps_val rfl (x_assign rfl) rfl ?_
    refine evOps_nil ?_
    refine thenQ_normal ?_
    refine ev_seq ?_
    refine ev_seq ?_
    refine ev_region rfl ?_
    refine evOps_val rfl (x_move rfl) rfl ?_
    refine evOps_val rfl (x_move rfl) rfl ?_
    refine evOps_val rfl (x_len' h2 rfl rfl rfl (e := 2) (by kernel_rfl) rfl) rfl ?_
    refine evOps_val rfl (x_bin rfl rfl rfl) rfl ?_
    refine evOps_nil ?_
    refine thenQ_normal ?_
    refine ev_cond2 rfl (fun h19 => ?_) (fun h19 => ?_)
    · skip
      refine ev_seq ?_
      refine ev_region rfl ?_
      refine evOps_val rfl (x_assign rfl) rfl ?_
      refine evOps_nil ?_
      refine thenQ_normal ?_
      refine ev_ret ?_
      refine thenQ_ret (blockQ_ret (thenQ_ret (loopQ_ret (blockQ_ret (thenQ_ret (?_))))))
      exact end_ret1 rfl rfl ⟨congrArg (AV.int .i64) (by symm; rw [he2]; exact cmpL_more hx14 (ge_of_ge h19)), hst⟩
    · skip
      refine ev_skip ?_
      refine thenQ_normal ?_
      refine ev_seq ?_
      refine ev_region rfl ?_
      refine evOps_val rfl (x_move rfl) rfl ?_
      refine evOps_val rfl (x_move rfl) rfl ?_
      obtain ⟨x22, hx22⟩ := at_of (lt_of_ge h19)
      refine o_idx (e := 2) (m := 1) h2 hx22 rfl rfl (by kernel_rfl) (by kernel_rfl) rfl rfl (fun _ => rfl) (fun p22 vs22 hp22 hl22 hr22 => ?_)
      obtain rfl := hr22
      refine evOps_val rfl (x_pload1 hst hp22 rfl (by kernel_rfl) rfl) rfl ?_
      refine evOps_val rfl (x_assign rfl) rfl ?_
      refine evOps_nil ?_
      refine thenQ_normal ?_
      refine ev_seq ?_
      refine ev_region rfl ?_
      refine evOps_val rfl (x_move rfl) rfl ?_
      refine evOps_val rfl (x_move rfl) rfl ?_
      refine o_callV rfl (x_call rfl rfl rfl (by kernel_rfl)) (fun _ => rfl) (w_cmp_int64 hG _ _ hst) (fun σ hst => ?_)
      refine evOps_val rfl (x_assign rfl) rfl ?_
      refine evOps_nil ?_
      refine thenQ_normal ?_
      refine ev_seq ?_
      refine ev_region rfl ?_
      refine evOps_val rfl (x_move rfl) rfl ?_
      refine evOps_val rfl (x_bin rfl rfl rfl) rfl ?_
      refine evOps_nil ?_
      refine thenQ_normal ?_
      refine ev_cond2 rfl (fun h28 => ?_) (fun h28 => ?_)
      · skip
        refine ev_seq ?_
        refine ev_region rfl ?_
        refine evOps_val rfl (x_move rfl) rfl ?_
        refine evOps_val rfl (x_assign rfl) rfl ?_
        refine evOps_nil ?_
        refine thenQ_normal ?_
        refine ev_ret ?_
        refine blockQ_ret (thenQ_ret (loopQ_ret (blockQ_ret (thenQ_ret (?_)))))
        exact end_ret1 rfl rfl ⟨congrArg (AV.int .i64) (by symm; rw [he2]; exact cmpL_stop hx14 hx22 (notB_t h28)), hst⟩
      · skip
        refine ev_skip ?_
        refine blockQ_normal ?_
        refine thenQ_normal ?_
        refine ev_region rfl ?_
        refine evOps_val rfl (x_bin rfl rfl rfl) rfl ?_
        refine evOps_val rfl (x_move rfl) rfl ?_
        refine evOps_nil ?_
        refine loopQ_normal ⟨j2 - 1, by omega, (by (iterate 48 refine OffW.put rfl ?_); exact OffW.refl _ _), i + 1, by omega, he2.trans (cmpL_step hx14 hx22 (notB_f h28)), congrArg (fun z => some (AV.int .i64 z)) (wr_succ (by have := h1.len_le; omega)), hst⟩
  · skip
    refine ev_exit ?_
    refine thenQ_exit ?_
    refine loopQ_exit ?_
    refine blockQ_exit ?_
    refine thenQ_normal ?_
    refine ev_seq ?_
    refine ev_seq ?_
    refine ev_region rfl ?_
    refine evOps_val rfl (x_move rfl) rfl ?_
    refine evOps_val rfl (x_len' h1 rfl rfl rfl (e := 2) (by kernel_rfl) rfl) rfl ?_
    refine evOps_val rfl (x_move rfl) rfl ?_
    refine evOps_val rfl (x_len' h2 rfl rfl rfl (e := 2) (by kernel_rfl) rfl) rfl ?_
    refine evOps_val rfl (x_bin rfl rfl rfl) rfl ?_
    refine evOps_nil ?_
    refine thenQ_normal ?_
    refine ev_cond2 rfl (fun h35 => ?_) (fun h35 => ?_)
    · skip
      refine ev_seq ?_
      refine ev_region rfl ?_
      refine evOps_val rfl (x_assign rfl) rfl ?_
      refine evOps_nil ?_
      refine thenQ_normal ?_
      refine ev_ret ?_
      refine thenQ_ret (?_)
      exact end_ret1 rfl rfl ⟨congrArg (AV.int .i64) (by symm; rw [he2]; exact cmpL_less (lt_no h12) (by omega) (lt_yes h35)), hst⟩
    · skip
      refine ev_skip ?_
      refine thenQ_normal ?_
      refine ev_seq ?_
      refine ev_region rfl ?_
      refine evOps_val rfl (x_assign rfl) rfl ?_
      refine evOps_nil ?_
      refine thenQ_normal ?_
      refine ev_ret ?_
      exact end_ret1 rfl rfl ⟨congrArg (AV.int .i64) (by symm; rw [he2]; exact cmpL_end (lt_no h12) (lt_no h35)), hst⟩
theorem w_compareLen {G : Cx} (hG : Plain G) {K : KP} {l1 l2 : List XEv} {v1 v2 : AV} {σ : AHeap} {L : Own} (hst : St σ K L) (h1 : HasS K 5 REv l1 v1) (h2 : HasS K 5 REv l2 v2) : EvCall Tryz.prog G 43 [v1, v2] σ fun v σ' => v = .int .i64 (cmpLen l1 l2) ∧ St σ' K L := by
  refine ev_body hG Tryz.func43 rfl (t := (PT.leaf.put (some (v1)) 0).put (some (v2)) 1) (by rfl) ?_
  refine ev_seq ?_
  refine ev_region rfl ?_
  refine evOps_val rfl (x_assign rfl) rfl ?_
  refine evOps_nil ?_
  refine thenQ_normal ?_
  refine ev_seq ?_
  refine ev_region rfl ?_
  refine evOps_val rfl (x_move rfl) rfl ?_
  refine evOps_val rfl (x_len' h1 rfl rfl rfl (e := 78) (by kernel_rfl) rfl) rfl ?_
  refine evOps_val rfl (x_move rfl) rfl ?_
  refine evOps_val rfl (x_len' h2 rfl rfl rfl (e := 78) (by kernel_rfl) rfl) rfl ?_
  refine o_callV rfl (x_call rfl rfl rfl (by kernel_rfl)) (fun _ => rfl) (w_cmp_int hG _ _ hst) (fun σ hst => ?_)
  refine evOps_val rfl (x_assign rfl) rfl ?_
  refine evOps_nil ?_
  refine thenQ_normal ?_
  refine ev_ret ?_
  exact end_ret1 rfl rfl ⟨rfl, hst⟩
theorem w_compareEvents {G : Cx} (hG : Plain G) {K : KP} {l1 l2 : List XEv} {v1 v2 : AV} {σ : AHeap} {L : Own} (hst : St σ K L) (h1 : HasS K 5 REv l1 v1) (h2 : HasS K 5 REv l2 v2) : EvCall Tryz.prog G 45 [v1, v2] σ fun v σ' => v = .int .i64 (cmpL cmpEv l1 l2) ∧ St σ' K L := by
  refine ev_body hG Tryz.func45 rfl (t := (PT.leaf.put (some (v1)) 0).put (some (v2)) 1) (by rfl) ?_
  refine ev_seq ?_
  refine ev_region rfl ?_
  refine evOps_val rfl (x_assign rfl) rfl ?_
  refine evOps_nil ?_
  refine thenQ_normal ?_
  refine ev_seq ?_
  refine ev_region rfl ?_
  refine evOps_val rfl (x_move rfl) rfl ?_
  refine evOps_val rfl (x_move rfl) rfl ?_
  refine o_callV rfl (x_call rfl rfl rfl (by kernel_rfl)) (fun _ => rfl) (w_CFE hG (g := 77) (c := cmpEv) (by kernel_rfl) hst h1 h2 (fun _ _ _ _ hst => w_compareEvent hG _ _ hst)) (fun σ hst => ?_)
  refine evOps_val rfl (x_assign rfl) rfl ?_
  refine evOps_nil ?_
  refine thenQ_normal ?_
  refine ev_ret ?_
  exact end_ret1 rfl rfl ⟨rfl, hst⟩
theorem w_91 {G : Cx} (hG : Plain G) {K : KP} {l1 l2 : List XId} {v1 v2 p q : AV} (h1 : HasS K 2 RId l1 v1) (h2 : HasS K 2 RId l2 v2) (hp1 : PtsTo K p [v1]) (hp2 : PtsTo K q [v2]) {σ : AHeap} {L : Own} (hst : St σ K L) : EvCall Tryz.prog G 78 [p, q] σ fun v σ' => v = .int .i64 (cmpL cmpId l1 l2) ∧ St σ' K L := by
  refine ev_body hG Tryz.func78 rfl (t := (PT.leaf.put (some (p)) 0).put (some (q)) 1) (by rfl) ?_
  refine ev_seq ?_
  refine ev_region rfl ?_
  refine evOps_val rfl (x_assign rfl) rfl ?_
  refine evOps_nil ?_
  refine thenQ_normal ?_
  refine ev_seq ?_
  refine ev_region rfl ?_
  refine evOps_val rfl (x_pload1 hst hp1 rfl (by kernel_rfl) rfl) rfl ?_
  refine evOps_val rfl (x_pload1 hst hp2 rfl (by kernel_rfl) rfl) rfl ?_
  refine o_callV rfl (x_call rfl rfl rfl (by kernel_rfl)) (fun _ => rfl) (w_CFI hG (g := 80) (c := cmpId) (by kernel_rfl) hst h1 h2 (fun _ _ _ _ hst => w_compareId hG _ _ hst)) (fun σ hst => ?_)
  refine evOps_val rfl (x_assign rfl) rfl ?_
  refine evOps_nil ?_
  refine thenQ_normal ?_
  refine ev_ret ?_
  exact end_ret1 rfl rfl ⟨rfl, hst⟩
theorem rf_91 {G : Cx} (hG : Plain G) {K : KP} {b1 b2 e1 e2 : Nat} {v1 v2 : AV} (hb1 : K b1 (.row [v1] e1 false)) (hb2 : K b2 (.row [v2] e2 false)) {l1 l2 : List XId} (h1 : HasS K 2 RId l1 v1) (h2 : HasS K 2 RId l2 v2) : RFun Tryz.prog G K (cmpL cmpId l1 l2) [.func 78 [] [.ptr b1 0, .ptr b2 0]] := ⟨78, _, rfl, by kernel_rfl, fun σ L hst => w_91 hG h1 h2 (pts_row hb1) (pts_row hb2) hst⟩
theorem w_compareIds {G : Cx} (hG : Plain G) {K : KP} {l1 l2 : List XId} {v1 v2 : AV} {σ : AHeap} {L : Own} (hst : St σ K L) (h1 : HasS K 2 RId l1 v1) (h2 : HasS K 2 RId l2 v2) : EvCall Tryz.prog G 48 [v1, v2] σ fun v σ' => v = .int .i64 (cmpIds l1 l2) ∧ St σ' K L := by
  refine ev_body hG Tryz.func48 rfl (t := (PT.leaf.put (some (v1)) 0).put (some (v2)) 1) (by rfl) ?_
  refine ev_seq ?_
  refine ev_region rfl ?_
  refine o_ptr hst rfl (x_box rfl h1.leaf.1) (fun _ => rfl) (fun σ b1 hst => ?_)
  refine o_ptr hst rfl (x_box rfl h2.leaf.1) (fun _ => rfl) (fun σ b2 hst => ?_)
  refine evOps_val rfl (x_assign rfl) rfl ?_
  refine evOps_nil ?_
  refine thenQ_normal ?_
  refine ev_seq ?_
  refine ev_region rfl ?_
  refine evOps_val rfl (x_load1 rfl (hst.get 1 rfl) (by kernel_rfl) rfl) rfl ?_
  refine evOps_val rfl (x_len' h1 rfl rfl rfl (e := 81) (by kernel_rfl) rfl) rfl ?_
  refine evOps_val rfl (x_load1 rfl (hst.get 0 rfl) (by kernel_rfl) rfl) rfl ?_
  refine evOps_val rfl (x_len' h2 rfl rfl rfl (e := 81) (by kernel_rfl) rfl) rfl ?_
  refine o_call rfl (x_call rfl rfl rfl (by kernel_rfl)) (fun _ => rfl) (w_of_int hG _ _ hst) ?_
  rintro _ σ ⟨b3, b4, rfl, hst⟩
  refine evOps_val rfl (x_pure rfl rfl) rfl ?_
  refine o_mk hst rfl (x_buildS (e := 89) (m := 1) (z := [.nilFunc]) (cs := [.func 74 [] [.ptr b3 0, .ptr b4 0], .func 78 [] [.ptr b1 0, .ptr b2 0]]) (by kernel_rfl) (by kernel_rfl) (by kernel_rfl) (by kernel_rfl) (by rfl)) (fun _ => rfl) (fun σ b5 hst => ?_)
  have hq := hst.keeps (M := [_, _, _, _, _])
  refine o_callV rfl (x_call rfl rfl rfl (by kernel_rfl)) (fun _ => rfl) (call_keeps (w_decided hG hq (RFuns.slice (RFuns.cons (rf_87 hG (KP.adds_get 2 rfl) (KP.adds_get 1 rfl)) (RFuns.cons (rf_91 hG (KP.adds_get 4 rfl) (KP.adds_get 3 rfl) (h1.mono (KP.le_adds _ _) fun _ _ h => h) (h2.mono (KP.le_adds _ _) fun _ _ h => h)) RFuns.nil)) (KP.adds_get 0 rfl) rfl (Nat.le_refl _) (by decide)))) (fun σ hst => ?_)
  clear hq
  refine evOps_val rfl (x_assign rfl) rfl ?_
  refine evOps_nil ?_
  refine thenQ_normal ?_
  refine ev_ret ?_
  exact end_ret1 rfl rfl ⟨rfl, hst⟩
theorem w_54 {G : Cx} (hG : Plain G) {K : KP} {g1 g2 : XG} {a1 b1 c1 d1 a2 b2 c2 d2 : AV} (h1 : HasG K g1 a1 b1 c1 d1) (h2 : HasG K g2 a2 b2 c2 d2) {p q : AV} (hp1 : PtsTo K p [a1, b1, c1, d1]) (hp2 : PtsTo K q [a2, b2, c2, d2]) {σ : AHeap} {L : Own} (hst : St σ K L) : EvCall Tryz.prog G 41 [p, q] σ fun v σ' => v = .int .i64 (cmpL cmpLen g1.threads g2.threads) ∧ St σ' K L := by
  have h1' := h1; obtain ⟨hi1, ht1, hf1, ho1⟩ := h1'
  have h2' := h2; obtain ⟨hi2, ht2, hf2, ho2⟩ := h2'
  refine ev_body hG Tryz.func41 rfl (t := (PT.leaf.put (some (p)) 0).put (some (q)) 1) (by rfl) ?_
  refine ev_seq ?_
  refine ev_region rfl ?_
  refine evOps_val rfl (x_assign rfl) rfl ?_
  refine evOps_nil ?_
  refine thenQ_normal ?_
  refine ev_seq ?_
  refine ev_region rfl ?_
  refine o_pfield hp1 rfl rfl rfl (k := 1) (by kernel_rfl) (Nat.le_of_ble_eq_true rfl) (fun _ => rfl) (fun p3 hp3 => ?_)
  refine evOps_val rfl (x_pload1 hst hp3 rfl (by kernel_rfl) rfl) rfl ?_
  refine o_pfield hp2 rfl rfl rfl (k := 1) (by kernel_rfl) (Nat.le_of_ble_eq_true rfl) (fun _ => rfl) (fun p5 hp5 => ?_)
  refine evOps_val rfl (x_pload1 hst hp5 rfl (by kernel_rfl) rfl) rfl ?_
  refine o_callV rfl (x_call rfl rfl rfl (by kernel_rfl)) (fun _ => rfl) (w_CFe hG (g := 43) (c := cmpLen) (by kernel_rfl) hst ht1 ht2 (fun _ _ _ _ _ _ hst hx hy => w_compareLen hG hst hx hy)) (fun σ hst => ?_)
  refine evOps_val rfl (x_assign rfl) rfl ?_
  refine evOps_nil ?_
  refine thenQ_normal ?_
  refine ev_ret ?_
  exact end_ret1 rfl rfl ⟨rfl, hst⟩
theorem rf_54 {G : Cx} (hG : Plain G) {K : KP} {x1 x2 e1 e2 : Nat} {g1 g2 : XG} {a1 b1 c1 d1 a2 b2 c2 d2 : AV} (hb1 : K x1 (.row [a1, b1, c1, d1] e1 false)) (hb2 : K x2 (.row [a2, b2, c2, d2] e2 false)) (h1 : HasG K g1 a1 b1 c1 d1) (h2 : HasG K g2 a2 b2 c2 d2) : RFun Tryz.prog G K (cmpL cmpLen g1.threads g2.threads) [.func 41 [] [.ptr x1 0, .ptr x2 0]] := ⟨41, _, rfl, by kernel_rfl, fun σ L hst => w_54 hG h1 h2 (pts_row hb1) (pts_row hb2) hst⟩
theorem w_57 {G : Cx} (hG : Plain G) {K : KP} {g1 g2 : XG} {a1 b1 c1 d1 a2 b2 c2 d2 : AV} (h1 : HasG K g1 a1 b1 c1 d1) (h2 : HasG K g2 a2 b2 c2 d2) {p q : AV} (hp1 : PtsTo K p [a1, b1, c1, d1]) (hp2 : PtsTo K q [a2, b2, c2, d2]) {σ : AHeap} {L : Own} (hst : St σ K L) : EvCall Tryz.prog G 44 [p, q] σ fun v σ' => v = .int .i64 (cmpL (cmpL cmpEv) g1.threads g2.threads) ∧ St σ' K L := by
  have h1' := h1; obtain ⟨hi1, ht1, hf1, ho1⟩ := h1'
  have h2' := h2; obtain ⟨hi2, ht2, hf2, ho2⟩ := h2'
  refine ev_body hG Tryz.func44 rfl (t := (PT.leaf.put (some (p)) 0).put (some (q)) 1) (by rfl) ?_
  refine ev_seq ?_
  refine ev_region rfl ?_
  refine evOps_val rfl (x_assign rfl) rfl ?_
  refine evOps_nil ?_
  refine thenQ_normal ?_
  refine ev_seq ?_
  refine ev_region rfl ?_
  refine o_pfield hp1 rfl rfl rfl (k := 1) (by kernel_rfl) (Nat.le_of_ble_eq_true rfl) (fun _ => rfl) (fun p3 hp3 => ?_)
  refine evOps_val rfl (x_pload1 hst hp3 rfl (by kernel_rfl) rfl) rfl ?_
  refine o_pfield hp2 rfl rfl rfl (k := 1) (by kernel_rfl) (Nat.le_of_ble_eq_true rfl) (fun _ => rfl) (fun p5 hp5 => ?_)
  refine evOps_val rfl (x_pload1 hst hp5 rfl (by kernel_rfl) rfl) rfl ?_
  refine o_callV rfl (x_call rfl rfl rfl (by kernel_rfl)) (fun _ => rfl) (w_CFe hG (g := 45) (c := cmpL cmpEv) (by kernel_rfl) hst ht1 ht2 (fun _ _ _ _ _ _ hst hx hy => w_compareEvents hG hst hx hy)) (fun σ hst => ?_)
  refine evOps_val rfl (x_assign rfl) rfl ?_
  refine evOps_nil ?_
  refine thenQ_normal ?_
  refine ev_ret ?_
  exact end_ret1 rfl rfl ⟨rfl, hst⟩
theorem rf_57 {G : Cx} (hG : Plain G) {K : KP} {x1 x2 e1 e2 : Nat} {g1 g2 : XG} {a1 b1 c1 d1 a2 b2 c2 d2 : AV} (hb1 : K x1 (.row [a1, b1, c1, d1] e1 false)) (hb2 : K x2 (.row [a2, b2, c2, d2] e2 false)) (h1 : HasG K g1 a1 b1 c1 d1) (h2 : HasG K g2 a2 b2 c2 d2) : RFun Tryz.prog G K (cmpL (cmpL cmpEv) g1.threads g2.threads) [.func 44 [] [.ptr x1 0, .ptr x2 0]] := ⟨44, _, rfl, by kernel_rfl, fun σ L hst => w_57 hG h1 h2 (pts_row hb1) (pts_row hb2) hst⟩
theorem w_59 {G : Cx} (hG : Plain G) {K : KP} {g1 g2 : XG} {a1 b1 c1 d1 a2 b2 c2 d2 : AV} (h1 : HasG K g1 a1 b1 c1 d1) (h2 : HasG K g2 a2 b2 c2 d2) {p q : AV} (hp1 : PtsTo K p [a1, b1, c1, d1]) (hp2 : PtsTo K q [a2, b2, c2, d2]) {σ : AHeap} {L : Own} (hst : St σ K L) : EvCall Tryz.prog G 46 [p, q] σ fun v σ' => v = .int .i64 (cmpL cmpIds g1.from_ g2.from_) ∧ St σ' K L := by
  have h1' := h1; obtain ⟨hi1, ht1, hf1, ho1⟩ := h1'
  have h2' := h2; obtain ⟨hi2, ht2, hf2, ho2⟩ := h2'
  refine ev_body hG Tryz.func46 rfl (t := (PT.leaf.put (some (p)) 0).put (some (q)) 1) (by rfl) ?_
  refine ev_seq ?_
  refine ev_region rfl ?_
  refine evOps_val rfl (x_assign rfl) rfl ?_
  refine evOps_nil ?_
  refine thenQ_normal ?_
  refine ev_seq ?_
  refine ev_region rfl ?_
  refine o_pfield hp1 rfl rfl rfl (k := 2) (by kernel_rfl) (Nat.le_of_ble_eq_true rfl) (fun _ => rfl) (fun p3 hp3 => ?_)
  refine evOps_val rfl (x_pload1 hst hp3 rfl (by kernel_rfl) rfl) rfl ?_
  refine o_pfield hp2 rfl rfl rfl (k := 2) (by kernel_rfl) (Nat.le_of_ble_eq_true rfl) (fun _ => rfl) (fun p5 hp5 => ?_)
  refine evOps_val rfl (x_pload1 hst hp5 rfl (by kernel_rfl) rfl) rfl ?_
  refine o_callV rfl (x_call rfl rfl rfl (by kernel_rfl)) (fun _ => rfl) (w_CFi hG (g := 48) (c := cmpIds) (by kernel_rfl) hst hf1 hf2 (fun _ _ _ _ _ _ hst hx hy => w_compareIds hG hst hx hy)) (fun σ hst => ?_)
  refine evOps_val rfl (x_assign rfl) rfl ?_
  refine evOps_nil ?_
  refine thenQ_normal ?_
  refine ev_ret ?_
  exact end_ret1 rfl rfl ⟨rfl, hst⟩
theorem rf_59 {G : Cx} (hG : Plain G) {K : KP} {x1 x2 e1 e2 : Nat} {g1 g2 : XG} {a1 b1 c1 d1 a2 b2 c2 d2 : AV} (hb1 : K x1 (.row [a1, b1, c1, d1] e1 false)) (hb2 : K x2 (.row [a2, b2, c2, d2] e2 false)) (h1 : HasG K g1 a1 b1 c1 d1) (h2 : HasG K g2 a2 b2 c2 d2) : RFun Tryz.prog G K (cmpL cmpIds g1.from_ g2.from_) [.func 46 [] [.ptr x1 0, .ptr x2 0]] := ⟨46, _, rfl, by kernel_rfl, fun σ L hst => w_59 hG h1 h2 (pts_row hb1) (pts_row hb2) hst⟩
theorem w_62 {G : Cx} (hG : Plain G) {K : KP} {g1 g2 : XG} {a1 b1 c1 d1 a2 b2 c2 d2 : AV} (h1 : HasG K g1 a1 b1 c1 d1) (h2 : HasG K g2 a2 b2 c2 d2) {p q : AV} (hp1 : PtsTo K p [a1, b1, c1, d1]) (hp2 : PtsTo K q [a2, b2, c2, d2]) {σ : AHeap} {L : Own} (hst : St σ K L) : EvCall Tryz.prog G 49 [p, q] σ fun v σ' => v = .int .i64 (cmpL cmpIds g1.order g2.order) ∧ St σ' K L := by
  have h1' := h1; obtain ⟨hi1, ht1, hf1, ho1⟩ := h1'
  have h2' := h2; obtain ⟨hi2, ht2, hf2, ho2⟩ := h2'
  refine ev_body hG Tryz.func49 rfl (t := (PT.leaf.put (some (p)) 0).put (some (q)) 1) (by rfl) ?_
  refine ev_seq ?_
  refine ev_region rfl ?_
  refine evOps_val rfl (x_assign rfl) rfl ?_
  refine evOps_nil ?_
  refine thenQ_normal ?_
  refine ev_seq ?_
  refine ev_region rfl ?_
  refine o_pfield hp1 rfl rfl rfl (k := 3) (by kernel_rfl) (Nat.le_of_ble_eq_true rfl) (fun _ => rfl) (fun p3 hp3 => ?_)
  refine evOps_val rfl (x_pload1 hst hp3 rfl (by kernel_rfl) rfl) rfl ?_
  refine o_pfield hp2 rfl rfl rfl (k := 3) (by kernel_rfl) (Nat.le_of_ble_eq_true rfl) (fun _ => rfl) (fun p5 hp5 => ?_)
  refine evOps_val rfl (x_pload1 hst hp5 rfl (by kernel_rfl) rfl) rfl ?_
  refine o_callV rfl (x_call rfl rfl rfl (by kernel_rfl)) (fun _ => rfl) (w_CFi hG (g := 48) (c := cmpIds) (by kernel_rfl) hst ho1 ho2 (fun _ _ _ _ _ _ hst hx hy => w_compareIds hG hst hx hy)) (fun σ hst => ?_)
  refine evOps_val rfl (x_assign rfl) rfl ?_
  refine evOps_nil ?_
  refine thenQ_normal ?_
  refine ev_ret ?_
  exact end_ret1 rfl rfl ⟨rfl, hst⟩
theorem rf_62 {G : Cx} (hG : Plain G) {K : KP} {x1 x2 e1 e2 : Nat} {g1 g2 : XG} {a1 b1 c1 d1 a2 b2 c2 d2 : AV} (hb1 : K x1 (.row [a1, b1, c1, d1] e1 false)) (hb2 : K x2 (.row [a2, b2, c2, d2] e2 false)) (h1 : HasG K g1 a1 b1 c1 d1) (h2 : HasG K g2 a2 b2 c2 d2) : RFun Tryz.prog G K (cmpL cmpIds g1.order g2.order) [.func 49 [] [.ptr x1 0, .ptr x2 0]] := ⟨49, _, rfl, by kernel_rfl, fun σ L hst => w_62 hG h1 h2 (pts_row hb1) (pts_row hb2) hst⟩
theorem w_63 {G : Cx} (hG : Plain G) {K : KP} {g1 g2 : XG} {a1 b1 c1 d1 a2 b2 c2 d2 : AV} (h1 : HasG K g1 a1 b1 c1 d1) (h2 : HasG K g2 a2 b2 c2 d2) {p q : AV} (hp1 : PtsTo K p [a1, b1, c1, d1]) (hp2 : PtsTo K q [a2, b2, c2, d2]) {σ : AHeap} {L : Own} (hst : St σ K L) : EvCall Tryz.prog G 50 [p, q] σ fun v σ' => v = .int .i64 (cmpL cmpZ g1.init g2.init) ∧ St σ' K L := by
  have h1' := h1; obtain ⟨hi1, ht1, hf1, ho1⟩ := h1'
  have h2' := h2; obtain ⟨hi2, ht2, hf2, ho2⟩ := h2'
  refine ev_body hG Tryz.func50 rfl (t := (PT.leaf.put (some (p)) 0).put (some (q)) 1) (by rfl) ?_
  refine ev_seq ?_
  refine ev_region rfl ?_
  refine evOps_val rfl (x_assign rfl) rfl ?_
  refine evOps_nil ?_
  refine thenQ_normal ?_
  refine ev_seq ?_
  refine ev_region rfl ?_
  refine o_pfield hp1 rfl rfl rfl (k := 0) (by kernel_rfl) (Nat.le_of_ble_eq_true rfl) (fun _ => rfl) (fun p3 hp3 => ?_)
  refine evOps_val rfl (x_pload1 hst hp3 rfl (by kernel_rfl) rfl) rfl ?_
  refine o_pfield hp2 rfl rfl rfl (k := 0) (by kernel_rfl) (Nat.le_of_ble_eq_true rfl) (fun _ => rfl) (fun p5 hp5 => ?_)
  refine evOps_val rfl (x_pload1 hst hp5 rfl (by kernel_rfl) rfl) rfl ?_
  refine o_callV rfl (x_call rfl rfl rfl (by kernel_rfl)) (fun _ => rfl) (w_Cmp64 hG hst hi1 hi2 ) (fun σ hst => ?_)
  refine evOps_val rfl (x_assign rfl) rfl ?_
  refine evOps_nil ?_
  refine thenQ_normal ?_
  refine ev_ret ?_
  exact end_ret1 rfl rfl ⟨rfl, hst⟩
theorem rf_63 {G : Cx} (hG : Plain G) {K : KP} {x1 x2 e1 e2 : Nat} {g1 g2 : XG} {a1 b1 c1 d1 a2 b2 c2 d2 : AV} (hb1 : K x1 (.row [a1, b1, c1, d1] e1 false)) (hb2 : K x2 (.row [a2, b2, c2, d2] e2 false)) (h1 : HasG K g1 a1 b1 c1 d1) (h2 : HasG K g2 a2 b2 c2 d2) : RFun Tryz.prog G K (cmpL cmpZ g1.init g2.init) [.func 50 [] [.ptr x1 0, .ptr x2 0]] := ⟨50, _, rfl, by kernel_rfl, fun σ L hst => w_63 hG h1 h2 (pts_row hb1) (pts_row hb2) hst⟩
theorem w_Compare {G : Cx} (hG : Plain G) {K : KP} {g1 g2 : XG} {a1 b1 c1 d1 a2 b2 c2 d2 : AV} (h1 : HasG K g1 a1 b1 c1 d1) (h2 : HasG K g2 a2 b2 c2 d2) {σ : AHeap} {L : Own} (hst : St σ K L) : EvCall Tryz.prog G 17 [.agg [a1, b1, c1, d1], .agg [a2, b2, c2, d2]] σ fun v σ' => v = .int .i64 (cmpG g1 g2) ∧ St σ' K L := by
  have h1' := h1; obtain ⟨hi1, ht1, hf1, ho1⟩ := h1'
  have h2' := h2; obtain ⟨hi2, ht2, hf2, ho2⟩ := h2'
  refine ev_body hG Tryz.func17 rfl (t := (PT.leaf.put (some (.agg [a1, b1, c1, d1])) 0).put (some (.agg [a2, b2, c2, d2])) 1) (by rfl) ?_
  refine ev_seq ?_
  refine ev_region rfl ?_
  refine o_ptr hst rfl (x_box rfl rfl) (fun _ => rfl) (fun σ b1 hst => ?_)
  refine o_ptr hst rfl (x_box rfl rfl) (fun _ => rfl) (fun σ b2 hst => ?_)
  refine evOps_val rfl (x_assign rfl) rfl ?_
  refine evOps_nil ?_
  refine thenQ_normal ?_
  refine ev_seq ?_
  refine ev_region_plan (l := [(0, []), (1, []), (2, []), (3, []), (4, []), (5, []), (7, []), (8, []), (9, []), (10, []), (11, []), (12, []), (13, []), (14, []), (16, []), (17, []), (18, []), (19, []), (20, []), (21, []), (22, []), (24, []), (25, []), (26, []), (27, []), (28, []), (29, []), (30, []), (32, []), (6, [10, 13, 18, 21, 26, 29]), (15, [18, 21, 26, 29]), (23, [26, 29]), (31, []), (33, []), (34, []), (35, [])]) (by kernel_rfl) (by kernel_rfl) ?_
  refine evPlan_val rfl rfl (x_field rfl (k := 1) (by kernel_rfl)) rfl ?_
  refine evPlan_val rfl rfl (x_load1 rfl (hst.get 1 rfl) (by kernel_rfl) rfl) rfl ?_
  refine evPlan_val rfl rfl (x_len' ht1 rfl rfl rfl (e := 70) (by kernel_rfl) rfl) rfl ?_
  refine evPlan_val rfl rfl (x_field rfl (k := 1) (by kernel_rfl)) rfl ?_
  refine evPlan_val rfl rfl (x_load1 rfl (hst.get 0 rfl) (by kernel_rfl) rfl) rfl ?_
  refine evPlan_val rfl rfl (x_len' ht2 rfl rfl rfl (e := 70) (by kernel_rfl) rfl) rfl ?_
  refine evPlan_val rfl rfl (x_pure rfl rfl) rfl ?_
  refine evPlan_val rfl rfl (x_pure rfl rfl) rfl ?_
  refine evPlan_val rfl rfl (x_field rfl (k := 2) (by kernel_rfl)) rfl ?_
  refine evPlan_val rfl rfl (x_load1 rfl (hst.get 1 rfl) (by kernel_rfl) rfl) rfl ?_
  refine evPlan_val rfl rfl (x_len' hf1 rfl rfl rfl (e := 71) (by kernel_rfl) rfl) rfl ?_
  refine evPlan_val rfl rfl (x_field rfl (k := 2) (by kernel_rfl)) rfl ?_
  refine evPlan_val rfl rfl (x_load1 rfl (hst.get 0 rfl) (by kernel_rfl) rfl) rfl ?_
  refine evPlan_val rfl rfl (x_len' hf2 rfl rfl rfl (e := 71) (by kernel_rfl) rfl) rfl ?_
  refine evPlan_val rfl rfl (x_pure rfl rfl) rfl ?_
  refine evPlan_val rfl rfl (x_field rfl (k := 3) (by kernel_rfl)) rfl ?_
  refine evPlan_val rfl rfl (x_load1 rfl (hst.get 1 rfl) (by kernel_rfl) rfl) rfl ?_
  refine evPlan_val rfl rfl (x_len' ho1 rfl rfl rfl (e := 71) (by kernel_rfl) rfl) rfl ?_
  refine evPlan_val rfl rfl (x_field rfl (k := 3) (by kernel_rfl)) rfl ?_
  refine evPlan_val rfl rfl (x_load1 rfl (hst.get 0 rfl) (by kernel_rfl) rfl) rfl ?_
  refine evPlan_val rfl rfl (x_len' ho2 rfl rfl rfl (e := 71) (by kernel_rfl) rfl) rfl ?_
  refine evPlan_val rfl rfl (x_pure rfl rfl) rfl ?_
  refine evPlan_val rfl rfl (x_field rfl (k := 0) (by kernel_rfl)) rfl ?_
  refine evPlan_val rfl rfl (x_load1 rfl (hst.get 1 rfl) (by kernel_rfl) rfl) rfl ?_
  refine evPlan_val rfl rfl (x_len' hi1 rfl rfl rfl (e := 2) (by kernel_rfl) rfl) rfl ?_
  refine evPlan_val rfl rfl (x_field rfl (k := 0) (by kernel_rfl)) rfl ?_
  refine evPlan_val rfl rfl (x_load1 rfl (hst.get 0 rfl) (by kernel_rfl) rfl) rfl ?_
  refine evPlan_val rfl rfl (x_len' hi2 rfl rfl rfl (e := 2) (by kernel_rfl) rfl) rfl ?_
  refine evPlan_val rfl rfl (x_pure rfl rfl) rfl ?_
  refine p_call rfl rfl (x_call rfl rfl rfl (by kernel_rfl)) (fun _ => rfl) (w_of_int hG _ _ hst) ?_
  rintro _ σ ⟨b3, b4, rfl, hst⟩
  refine ⟨(still_cons (still_read rfl rfl rfl rfl rfl (x_load1 rfl (hst.get 3 rfl) (by kernel_rfl) rfl) hf1.beqA) (still_cons (still_read rfl rfl rfl rfl rfl (x_load1 rfl (hst.get 2 rfl) (by kernel_rfl) rfl) hf2.beqA) (still_cons (still_read rfl rfl rfl rfl rfl (x_load1 rfl (hst.get 3 rfl) (by kernel_rfl) rfl) ho1.beqA) (still_cons (still_read rfl rfl rfl rfl rfl (x_load1 rfl (hst.get 2 rfl) (by kernel_rfl) rfl) ho2.beqA) (still_cons (still_read rfl rfl rfl rfl rfl (x_load1 rfl (hst.get 3 rfl) (by kernel_rfl) rfl) hi1.beqA) (still_cons (still_read rfl rfl rfl rfl rfl (x_load1 rfl (hst.get 2 rfl) (by kernel_rfl) rfl) hi2.beqA) still_nil)))))), ?_⟩
  refine p_call rfl rfl (x_call rfl rfl rfl (by kernel_rfl)) (fun _ => rfl) (w_of_int hG _ _ hst) ?_
  rintro _ σ ⟨b5, b6, rfl, hst⟩
  refine ⟨(still_cons (still_read rfl rfl rfl rfl rfl (x_load1 rfl (hst.get 5 rfl) (by kernel_rfl) rfl) ho1.beqA) (still_cons (still_read rfl rfl rfl rfl rfl (x_load1 rfl (hst.get 4 rfl) (by kernel_rfl) rfl) ho2.beqA) (still_cons (still_read rfl rfl rfl rfl rfl (x_load1 rfl (hst.get 5 rfl) (by kernel_rfl) rfl) hi1.beqA) (still_cons (still_read rfl rfl rfl rfl rfl (x_load1 rfl (hst.get 4 rfl) (by kernel_rfl) rfl) hi2.beqA) still_nil)))), ?_⟩
  refine p_call rfl rfl (x_call rfl rfl rfl (by kernel_rfl)) (fun _ => rfl) (w_of_int hG _ _ hst) ?_
  rintro _ σ ⟨b7, b8, rfl, hst⟩
  refine ⟨(still_cons (still_read rfl rfl rfl rfl rfl (x_load1 rfl (hst.get 7 rfl) (by kernel_rfl) rfl) hi1.beqA) (still_cons (still_read rfl rfl rfl rfl rfl (x_load1 rfl (hst.get 6 rfl) (by kernel_rfl) rfl) hi2.beqA) still_nil)), ?_⟩
  refine p_call rfl rfl (x_call rfl rfl rfl (by kernel_rfl)) (fun _ => rfl) (w_of_int hG _ _ hst) ?_
  rintro _ σ ⟨b9, b10, rfl, hst⟩
  refine ⟨still_nil, ?_⟩
  refine p_mk hst rfl rfl (x_buildS (e := 89) (m := 1) (z := [.nilFunc]) (cs := [.func 74 [] [.ptr b3 0, .ptr b4 0], .func 41 [] [.ptr b1 0, .ptr b2 0], .func 44 [] [.ptr b1 0, .ptr b2 0], .func 74 [] [.ptr b5 0, .ptr b6 0], .func 46 [] [.ptr b1 0, .ptr b2 0], .func 74 [] [.ptr b7 0, .ptr b8 0], .func 49 [] [.ptr b1 0, .ptr b2 0], .func 74 [] [.ptr b9 0, .ptr b10 0], .func 50 [] [.ptr b1 0, .ptr b2 0]]) (by kernel_rfl) (by kernel_rfl) (by kernel_rfl) (by kernel_rfl) (by rfl)) (fun _ => rfl) (fun σ b11 hst => ?_)
  have hq := hst.keeps (M := [_, _, _, _, _, _, _, _, _, _, _])
  refine p_callV rfl rfl (x_call rfl rfl rfl (by kernel_rfl)) (fun _ => rfl) (call_keeps (w_decided hG hq (RFuns.slice (RFuns.cons (rf_87 hG (KP.adds_get 8 rfl) (KP.adds_get 7 rfl)) (RFuns.cons (rf_54 hG (KP.adds_get 10 rfl) (KP.adds_get 9 rfl) (h1.mono (KP.le_adds _ _)) (h2.mono (KP.le_adds _ _))) (RFuns.cons (rf_57 hG (KP.adds_get 10 rfl) (KP.adds_get 9 rfl) (h1.mono (KP.le_adds _ _)) (h2.mono (KP.le_adds _ _))) (RFuns.cons (rf_87 hG (KP.adds_get 6 rfl) (KP.adds_get 5 rfl)) (RFuns.cons (rf_59 hG (KP.adds_get 10 rfl) (KP.adds_get 9 rfl) (h1.mono (KP.le_adds _ _)) (h2.mono (KP.le_adds _ _))) (RFuns.cons (rf_87 hG (KP.adds_get 4 rfl) (KP.adds_get 3 rfl)) (RFuns.cons (rf_62 hG (KP.adds_get 10 rfl) (KP.adds_get 9 rfl) (h1.mono (KP.le_adds _ _)) (h2.mono (KP.le_adds _ _))) (RFuns.cons (rf_87 hG (KP.adds_get 2 rfl) (KP.adds_get 1 rfl)) (RFuns.cons (rf_63 hG (KP.adds_get 10 rfl) (KP.adds_get 9 rfl) (h1.mono (KP.le_adds _ _)) (h2.mono (KP.le_adds _ _))) RFuns.nil))))))))) (KP.adds_get 0 rfl) rfl (Nat.le_refl _) (by decide)))) (fun σ hst => ?_)
  clear hq
  refine ⟨still_nil, ?_⟩
  refine evPlan_val rfl rfl (x_assign rfl) rfl ?_
  refine evPlan_nil ?_
  refine thenQ_normal ?_
  refine ev_ret ?_
  exact end_ret1 rfl rfl ⟨rfl, hst⟩
theorem timesN_nil4 : ∀ n : Nat, timesN [.nilSlice, .nilSlice, .nilSlice, .nilSlice] n = List.replicate (n * 4) .nilSlice
  | 0 => rfl
  | n + 1 => by
    show [.nilSlice, .nilSlice, .nilSlice, .nilSlice] ++ timesN [.nilSlice, .nilSlice, .nilSlice, .nilSlice] n = _
    rw [timesN_nil4 n, Nat.add_mul, Nat.one_mul, Nat.add_comm, ← List.replicate_append_replicate]; rfl
theorem allLeaf_rep : ∀ n : Nat, allLeaf (List.replicate n .nilSlice) = true
  | 0 => rfl
  | n + 1 => allLeaf_cons rfl (allLeaf_rep n)
theorem compact_small {α : Type} {c : α → α → Int} {l : List α} (h : l.length < 2) : compact c l = l := by
  match l, h with
  | [], _ => rfl
  | [x], _ => rfl
  | _ :: _ :: _, h => simp at h; omega
theorem take_step2 {α : Type} {l : List α} {i : Nat} {x : α} (h : l[i]? = some x) : l.take (i + 1) = l.take i ++ [x] := by rw [List.take_add_one, h]; rfl
theorem w_same1 {G : Cx} (hG : Plain G) {K : KP} {g1 g2 : XG} {a1 b1 c1 d1 a2 b2 c2 d2 : AV} (h1 : HasG K g1 a1 b1 c1 d1) (h2 : HasG K g2 a2 b2 c2 d2) {σ : AHeap} {L : Own} (hst : St σ K L) :
    EvCall Tryz.prog G 19 [.agg [a1, b1, c1, d1], .agg [a2, b2, c2, d2]] σ fun v σ' => v = .bool (eqI (cmpG g1 g2) 0) ∧ St σ' K L := by
  refine ev_body hG Tryz.func19 rfl (t := (PT.leaf.put (some (.agg [a1, b1, c1, d1])) 0).put (some (.agg [a2, b2, c2, d2])) 1) (by rfl) ?_
  refine ev_seq ?_
  refine ev_region rfl ?_
  refine o_ptr hst rfl (x_box rfl rfl) (fun _ => rfl) (fun σ b1 hst => ?_)
  refine o_ptr hst rfl (x_box rfl rfl) (fun _ => rfl) (fun σ b2 hst => ?_)
  refine evOps_val rfl (x_assign rfl) rfl ?_
  refine evOps_nil ?_
  refine thenQ_normal ?_
  refine ev_seq ?_
  refine ev_region rfl ?_
  refine evOps_val rfl (x_loadN rfl (hst.get 1 rfl) (n := 4) (vs := [_, _, _, _]) (by kernel_rfl) (Nat.le_of_ble_eq_true rfl) rfl) rfl ?_
  refine evOps_val rfl (x_loadN rfl (hst.get 0 rfl) (n := 4) (vs := [_, _, _, _]) (by kernel_rfl) (Nat.le_of_ble_eq_true rfl) rfl) rfl ?_
  refine o_callV rfl (x_call rfl rfl rfl (by kernel_rfl)) (fun _ => rfl) (w_Compare hG h1 h2 hst) (fun σ hst => ?_)
  refine evOps_val rfl (x_bin rfl rfl rfl) rfl ?_
  refine evOps_val rfl (x_assign rfl) rfl ?_
  refine evOps_nil ?_
  refine thenQ_normal ?_
  refine ev_ret ?_
  exact end_ret1 rfl rfl ⟨rfl, hst.pop.pop⟩
theorem w_Compact {G : Cx} (hG : Plain G) {K : KP} {ls : List XG} {cells : List AV} (hr : RowG K ls cells) (hn : ls.length ≤ 1048576) {b e : Nat} {c : Cap} (hc : c = .known ls.length ∨ c = .upto 4) {σ : AHeap} {L : Own} (hst : St σ K ((b, .row cells e false) :: L)) :
    EvCall Tryz.prog G 18 [.slice b 0 ls.length c, .func 19 [] []] σ fun v σ' => ∃ c' cells' ts, v = .slice b 0 (compact cmpG ls).length c' ∧ CapOK 4 (compact cmpG ls).length c' ∧ RowG K (compact cmpG ls ++ ts) cells' ∧ (compact cmpG ls ++ ts).length ≤ 1048576 ∧ St σ' K ((b, .row cells' e false) :: L) := by
  have hcap : ∀ k, k ≤ ls.length → CapOK 4 k c := fun k hk => hc.elim (fun h => .inr ⟨_, h, hk⟩) .inl
  refine ev_body hG Tryz.func18 rfl (t := (PT.leaf.put (some (.slice b 0 ls.length c)) 0).put (some (.func 19 [] [])) 1) (by rfl) ?_
  refine ev_seq ?_
  refine ev_region rfl ?_
  refine evOps_val rfl (x_assign rfl) rfl ?_
  refine evOps_nil ?_
  refine thenQ_normal ?_
  refine ev_seq ?_
  refine ev_seq ?_
  refine ev_region rfl ?_
  refine evOps_val rfl (x_move rfl) rfl ?_
  refine evOps_val rfl (x_len rfl rfl rfl (e := 41) (by kernel_rfl) rfl) rfl ?_
  refine evOps_val rfl (x_bin rfl rfl rfl) rfl ?_
  refine evOps_nil ?_
  refine thenQ_normal ?_
  refine ev_cond2 rfl (fun h10 => ?_) (fun h10 => ?_)
  · skip
    refine ev_seq ?_
    refine ev_region rfl ?_
    refine evOps_val rfl (x_move rfl) rfl ?_
    refine evOps_val rfl (x_assign rfl) rfl ?_
    refine evOps_nil ?_
    refine thenQ_normal ?_
    refine ev_ret ?_
    refine thenQ_ret (?_)
    have hsm : compact cmpG ls = ls := compact_small (by have := lt_yes (b := 2) h10; omega)
    exact end_ret1 rfl rfl ⟨c, cells, [], by rw [hsm], hcap _ (by rw [hsm]; exact Nat.le_refl _), by rw [hsm, List.append_nil]; exact hr, by rw [hsm, List.append_nil]; exact hn, hst⟩
  · skip
    refine ev_skip ?_
    refine thenQ_normal ?_
    refine ev_seq ?_
    refine ev_seq ?_
    refine ev_region rfl ?_
    refine evOps_val rfl (x_assign rfl) rfl ?_
    refine evOps_nil ?_
    refine thenQ_normal ?_
    refine ev_block ?_
    refine ev_loopW [4, 5, 6, 7, 12, 13, 14, 15, 16, 17, 18, 19, 20, 21, 22, 23, 24, 25, 26, 27, 28, 29, 30, 31, 32, 33, 34, 35, 36, 37, 38, 39, 40, 41, 42, 43, 44, 45, 46, 47, 48, 49, 50, 51, 52, 53, 54, 55, 56, 57, 58, 59, 60, 61, 62, 63, 64] (fun j t σ => ∃ (k : Nat), (j + (k + 1) = ls.length ∧ compact cmpG (ls.take (k + 1)) = ls.take (k + 1)) ∧ t.get 5 = some (.int .i64 (.ofNat (k + 1))) ∧ St σ K ((b, .row cells e false) :: L)) (ls.length - 1) ⟨0, ⟨by have := lt_no (b := 2) h10; omega, compact_one1 (lt_no (b := 2) h10)⟩, rfl, hst⟩ ?_
    clear hst; intro j4 t σ hoff hI; obtain ⟨k, ⟨hj4, hcp⟩, hv5, hst⟩ := hI
    replace hoff := hoff.ex8 rfl rfl; obtain ⟨o4, o5, o6, o7, o12, o13, o14, o15, hoff⟩ := hoff
    replace hoff := hoff.ex8 rfl rfl; obtain ⟨o16, o17, o18, o19, o20, o21, o22, o23, hoff⟩ := hoff
    replace hoff := hoff.ex8 rfl rfl; obtain ⟨o24, o25, o26, o27, o28, o29, o30, o31, hoff⟩ := hoff
    replace hoff := hoff.ex8 rfl rfl; obtain ⟨o32, o33, o34, o35, o36, o37, o38, o39, hoff⟩ := hoff
    replace hoff := hoff.ex8 rfl rfl; obtain ⟨o40, o41, o42, o43, o44, o45, o46, o47, hoff⟩ := hoff
    replace hoff := hoff.ex8 rfl rfl; obtain ⟨o48, o49, o50, o51, o52, o53, o54, o55, hoff⟩ := hoff
    replace hoff := hoff.ex8 rfl rfl; obtain ⟨o56, o57, o58, o59, o60, o61, o62, o63, hoff⟩ := hoff
    replace hoff := hoff.ex1 rfl; obtain ⟨o64, hoff⟩ := hoff
    obtain rfl := hoff.nil; clear hoff
    replace hv5 : o5 = some _ := hv5; subst hv5
    refine ev_seq ?_
    refine ev_seq ?_
    refine ev_region rfl ?_
    refine evOps_val rfl (x_move rfl) rfl ?_
    refine evOps_val rfl (x_move rfl) rfl ?_
    refine evOps_val rfl (x_len rfl rfl rfl (e := 41) (by kernel_rfl) rfl) rfl ?_
    refine evOps_val rfl (x_bin rfl rfl rfl) rfl ?_
    refine evOps_nil ?_
    refine thenQ_normal ?_
    refine ev_cond2 rfl (fun h15 => ?_) (fun h15 => ?_)
    · skip
      refine ev_skip ?_
      refine thenQ_normal ?_
      refine ev_seq ?_
      refine ev_block ?_
      refine ev_seq ?_
      refine ev_region_plan (l := [(0, []), (1, []), (2, []), (3, []), (4, []), (5, []), (6, []), (7, []), (8, []), (9, []), (10, [])]) (by kernel_rfl) (by kernel_rfl) ?_
      have hkn : k + 1 < ls.length := lt_yes h15
      obtain ⟨x, hx⟩ := at_of hkn; obtain ⟨y, hy⟩ := at_of (show k < ls.length by omega); have hs := compact_succ (c := cmpG) hy hx
      refine evPlan_val rfl rfl (x_move rfl) rfl ?_
      refine evPlan_val rfl rfl (x_move rfl) rfl ?_
      refine evPlan_val rfl rfl (x_move rfl) rfl ?_
      refine evPlan_val rfl rfl (x_idx (e := 41) (m := 4) (by kernel_rfl) (by kernel_rfl) rfl rfl hkn) rfl ?_
      obtain ⟨a1, b1, c1, d1, hv1, hg1, hb1⟩ := hr.rd hx (off := 0 + (k + 1) * 4) (by omega)
      refine evPlan_val rfl rfl (x_loadN rfl (hst.get 0 rfl) (n := 4) (by kernel_rfl) hb1 hv1) rfl ?_
      refine evPlan_val rfl rfl (x_move rfl) rfl ?_
      refine evPlan_val rfl rfl (x_move rfl) rfl ?_
      refine evPlan_val rfl rfl (x_bin (v := .int .i64 (.ofNat k)) rfl rfl (congrArg (fun z => some (AV.int .i64 z)) (wr_pred (by omega)))) rfl ?_
      refine evPlan_val rfl rfl (x_idx (e := 41) (m := 4) (by kernel_rfl) (by kernel_rfl) rfl rfl (show k < ls.length by omega)) rfl ?_
      obtain ⟨a2, b2, c2, d2, hv2, hg2, hb2⟩ := hr.rd hy (off := 0 + k * 4) (by omega)
      refine evPlan_val rfl rfl (x_loadN rfl (hst.get 0 rfl) (n := 4) (by kernel_rfl) hb2 hv2) rfl ?_
      refine p_callV rfl rfl (x_call rfl rfl rfl (by kernel_rfl)) (fun _ => rfl) (w_same1 hG hg1 hg2 hst) (fun σ hst => ?_)
      refine ⟨still_nil, ?_⟩
      refine evPlan_nil ?_
      refine thenQ_normal ?_
      refine ev_cond2 rfl (fun h28 => ?_) (fun h28 => ?_)
      · skip
        refine ev_seq ?_
        refine ev_region rfl ?_
        refine evOps_val rfl (x_move rfl) rfl ?_
        refine evOps_val rfl (x_move rfl) rfl ?_
        refine o_from rfl rfl (e := 41) (sz := 4) (k := k + 1) (by kernel_rfl) (by kernel_rfl) hc rfl rfl hkn (fun _ => rfl) fun c2 => ?_
        refine evOps_val rfl (x_assign rfl) rfl ?_
        refine evOps_nil ?_
        refine thenQ_normal ?_
        refine ev_seq ?_
        refine ev_seq ?_
        refine ev_region rfl ?_
        refine evOps_val rfl (x_assign rfl) rfl ?_
        refine evOps_nil ?_
        refine thenQ_normal ?_
        refine ev_block ?_
        refine ev_loopW [5, 7, 32, 33, 34, 35, 36, 37, 38, 39, 40, 41, 42, 43, 44, 45, 46, 47, 48, 49, 50, 51, 52, 53, 54, 55, 56, 57, 58] (fun j t σ => ∃ (k2 : Nat) (cells2 : List AV), (j + (k2 + 1) = ls.length - (k + 1) ∧ (compact cmpG (ls.take (k + 1 + (k2 + 1)))).length ≤ k + 1 + k2 ∧ RowG K ((compact cmpG (ls.take (k + 1 + (k2 + 1)))) ++ ls.drop (compact cmpG (ls.take (k + 1 + (k2 + 1)))).length) cells2) ∧ t.get 5 = some (.int .i64 (.ofNat (compact cmpG (ls.take (k + 1 + (k2 + 1)))).length)) ∧ t.get 7 = some (.int .i64 (.ofNat (k2 + 1))) ∧ St σ K ((b, .row cells2 e false) :: L)) (ls.length - (k + 1) - 1) ⟨0, cells, ⟨by omega, (by rw [show k + 1 + (0 + 1) = k + 2 from rfl, hs, hcp, if_pos (eqC_eq0 h28), List.append_nil, List.length_take, Nat.min_eq_left (by omega)]; omega), by rw [show k + 1 + (0 + 1) = k + 2 from rfl, hs, hcp, if_pos (eqC_eq0 h28), List.append_nil, List.length_take, Nat.min_eq_left (by omega), List.take_append_drop]; exact hr⟩, (by rw [show k + 1 + (0 + 1) = k + 2 from rfl, hs, hcp, if_pos (eqC_eq0 h28), List.append_nil, List.length_take, Nat.min_eq_left (by omega)]; rfl), rfl, hst⟩ ?_
        clear hst; intro j9 t σ hoff hI; obtain ⟨k2, cells2, ⟨hj9, hAle, hr2⟩, hv5, hv7, hst⟩ := hI
        replace hoff := hoff.ex8 rfl rfl; obtain ⟨o5, o7, o32, o33, o34, o35, o36, o37, hoff⟩ := hoff
        replace hoff := hoff.ex8 rfl rfl; obtain ⟨o38, o39, o40, o41, o42, o43, o44, o45, hoff⟩ := hoff
        replace hoff := hoff.ex8 rfl rfl; obtain ⟨o46, o47, o48, o49, o50, o51, o52, o53, hoff⟩ := hoff
        replace hoff := hoff.ex4 rfl; obtain ⟨o54, o55, o56, o57, hoff⟩ := hoff
        replace hoff := hoff.ex1 rfl; obtain ⟨o58, hoff⟩ := hoff
        obtain rfl := hoff.nil; clear hoff
        replace hv5 : o5 = some _ := hv5; subst hv5
        replace hv7 : o7 = some _ := hv7; subst hv7
        refine ev_seq ?_
        refine ev_seq ?_
        refine ev_region rfl ?_
        refine evOps_val rfl (x_move rfl) rfl ?_
        refine evOps_val rfl (x_move rfl) rfl ?_
        refine evOps_val rfl (x_len rfl rfl rfl (e := 41) (by kernel_rfl) rfl) rfl ?_
        refine evOps_val rfl (x_bin rfl rfl rfl) rfl ?_
        refine evOps_nil ?_
        refine thenQ_normal ?_
        refine ev_cond2 rfl (fun h35 => ?_) (fun h35 => ?_)
        · skip
          refine ev_skip ?_
          refine thenQ_normal ?_
          refine ev_seq ?_
          refine ev_block ?_
          refine ev_seq ?_
          refine ev_region_plan (l := [(0, []), (1, []), (2, []), (3, []), (4, []), (5, []), (6, []), (7, []), (8, []), (9, []), (10, []), (11, [])]) (by kernel_rfl) (by kernel_rfl) ?_
          have hkn2 : k2 + 1 < ls.length - (k + 1) := lt_yes h35
          obtain ⟨x, hx⟩ := at_of (show k + 1 + k2 + 1 < ls.length by omega); obtain ⟨y, hy⟩ := at_of (show k + 1 + k2 < ls.length by omega)
          have hs : (compact cmpG (ls.take (k + 1 + (k2 + 1 + 1)))) = (compact cmpG (ls.take (k + 1 + (k2 + 1)))) ++ (if cmpG x y = 0 then [] else [x]) := compact_succ hy hx
          refine evPlan_val rfl rfl (x_move rfl) rfl ?_
          refine evPlan_val rfl rfl (x_move rfl) rfl ?_
          refine evPlan_val rfl rfl (x_move rfl) rfl ?_
          refine evPlan_val rfl rfl (x_idx (e := 41) (m := 4) (by kernel_rfl) (by kernel_rfl) rfl rfl hkn2) rfl ?_
          obtain ⟨a3, b3, c3, d3, hv3, hg3, hb3⟩ := hr2.rd (at_drop (A := (compact cmpG (ls.take (k + 1 + (k2 + 1))))) hx (by omega)) (off := 0 + (k + 1) * 4 + (k2 + 1) * 4) (by omega)
          refine evPlan_val rfl rfl (x_loadN rfl (hst.get 0 rfl) (n := 4) (by kernel_rfl) hb3 hv3) rfl ?_
          refine evPlan_val rfl rfl (x_move rfl) rfl ?_
          refine evPlan_val rfl rfl (x_move rfl) rfl ?_
          refine evPlan_val rfl rfl (x_bin (v := .int .i64 (.ofNat k2)) rfl rfl (congrArg (fun z => some (AV.int .i64 z)) (wr_pred (by omega)))) rfl ?_
          refine evPlan_val rfl rfl (x_idx (e := 41) (m := 4) (by kernel_rfl) (by kernel_rfl) rfl rfl (show k2 < ls.length - (k + 1) by omega)) rfl ?_
          obtain ⟨a4, b4, c4, d4, hv4, hg4, hb4⟩ := hr2.rd (at_drop (A := (compact cmpG (ls.take (k + 1 + (k2 + 1))))) hy (by omega)) (off := 0 + (k + 1) * 4 + k2 * 4) (by omega)
          refine evPlan_val rfl rfl (x_loadN rfl (hst.get 0 rfl) (n := 4) (by kernel_rfl) hb4 hv4) rfl ?_
          refine p_callV rfl rfl (x_call rfl rfl rfl (by kernel_rfl)) (fun _ => rfl) (w_same1 hG hg3 hg4 hst) (fun σ hst => ?_)
          refine ⟨still_nil, ?_⟩
          refine evPlan_val rfl rfl (x_not rfl) rfl ?_
          refine evPlan_nil ?_
          refine thenQ_normal ?_
          refine ev_cond2 rfl (fun h49 => ?_) (fun h49 => ?_)
          · have hA3 : (compact cmpG (ls.take (k + 1 + (k2 + 1 + 1)))) = (compact cmpG (ls.take (k + 1 + (k2 + 1)))) ++ [x] := by rw [hs, if_neg (eqC_ne (notB_t h49))]
            refine ev_seq ?_
            refine ev_region rfl ?_
            refine evOps_val rfl (x_move rfl) rfl ?_
            refine evOps_val rfl (x_move rfl) rfl ?_
            refine evOps_val rfl (x_move rfl) rfl ?_
            refine evOps_val rfl (x_move rfl) rfl ?_
            refine evOps_val rfl (x_idx (e := 41) (m := 4) (by kernel_rfl) (by kernel_rfl) rfl rfl hkn2) rfl ?_
            obtain ⟨a5, b5, c5, d5, hv5, hg5, hb5⟩ := hr2.rd (at_drop (A := (compact cmpG (ls.take (k + 1 + (k2 + 1))))) hx (by omega)) (off := 0 + (k + 1) * 4 + (k2 + 1) * 4) (by omega)
            refine evOps_val rfl (x_loadN rfl (hst.get 0 rfl) (n := 4) (by kernel_rfl) hb5 hv5) rfl ?_
            refine evOps_val rfl (x_idx (e := 41) (m := 4) (by kernel_rfl) (by kernel_rfl) rfl rfl (show (compact cmpG (ls.take (k + 1 + (k2 + 1)))).length < ls.length by omega)) rfl ?_
            refine o_setU hst .here rfl (x_storeS rfl rfl rfl (hst.get 0 rfl) (m := 4) (by kernel_rfl) rfl (by have := hr2.len; rw [cut_len (by omega)] at this; omega) (RG.leaf _ _ ⟨_, _, _, _, rfl, hg5⟩)) rfl (fun σ hst => ?_)
            have hr3 := hr2.wr (i := (compact cmpG (ls.take (k + 1 + (k2 + 1)))).length) (x := x) (by rw [cut_len (by omega)]; omega) hg5 (off := 0 + (compact cmpG (ls.take (k + 1 + (k2 + 1)))).length * 4) (by omega)
            rw [put_step (by omega), ← hA3] at hr3
            refine evOps_nil ?_
            refine thenQ_normal ?_
            refine ev_region rfl ?_
            refine evOps_val rfl (x_move rfl) rfl ?_
            refine evOps_val rfl (x_bin (v := .int .i64 (.ofNat ((compact cmpG (ls.take (k + 1 + (k2 + 1)))).length + 1))) rfl rfl (congrArg (fun z => some (AV.int .i64 z)) (wr_succ (by omega)))) rfl ?_
            refine evOps_val rfl (x_assign rfl) rfl ?_
            refine evOps_nil ?_
            refine blockQ_normal ?_
            refine thenQ_normal ?_
            refine ev_region rfl ?_
            refine evOps_val rfl (x_move rfl) rfl ?_
            refine evOps_val rfl (x_bin (v := .int .i64 (.ofNat ((k2 + 1) + 1))) rfl rfl (congrArg (fun z => some (AV.int .i64 z)) (wr_succ (by omega)))) rfl ?_
            refine evOps_val rfl (x_assign rfl) rfl ?_
            refine evOps_nil ?_
            refine loopQ_normal ⟨j9 - 1, (by have := lt_yes h35; omega), (by (iterate 58 refine OffW.put rfl ?_); exact OffW.refl _ _), k2 + 1, _, ⟨by omega, by rw [hA3, List.length_append, List.length_singleton]; omega, hr3⟩, (by rw [hA3, List.length_append]; rfl), rfl, hst⟩
          · have hA3 : (compact cmpG (ls.take (k + 1 + (k2 + 1 + 1)))) = (compact cmpG (ls.take (k + 1 + (k2 + 1)))) := by rw [hs, if_pos (eqC_eq0 (notB_f h49)), List.append_nil]
            have hr3 : RowG K ((compact cmpG (ls.take (k + 1 + (k2 + 1 + 1)))) ++ ls.drop (compact cmpG (ls.take (k + 1 + (k2 + 1 + 1)))).length) cells2 := by rw [hA3]; exact hr2
            refine ev_skip ?_
            refine blockQ_normal ?_
            refine thenQ_normal ?_
            refine ev_region rfl ?_
            refine evOps_val rfl (x_move rfl) rfl ?_
            refine evOps_val rfl (x_bin (v := .int .i64 (.ofNat ((k2 + 1) + 1))) rfl rfl (congrArg (fun z => some (AV.int .i64 z)) (wr_succ (by omega)))) rfl ?_
            refine evOps_val rfl (x_assign rfl) rfl ?_
            refine evOps_nil ?_
            refine loopQ_normal ⟨j9 - 1, (by have := lt_yes h35; omega), (by (iterate 48 refine OffW.put rfl ?_); exact OffW.refl _ _), k2 + 1, _, ⟨by omega, by rw [hA3]; omega, hr3⟩, (by rw [hA3]; rfl), rfl, hst⟩
        · skip
          refine ev_exit ?_
          refine thenQ_exit ?_
          refine loopQ_exit ?_
          refine blockQ_exit ?_
          refine thenQ_normal ?_
          refine ev_seq ?_
          refine ev_region rfl ?_
          refine evOps_val rfl (x_move rfl) rfl ?_
          refine evOps_val rfl (x_move rfl) rfl ?_
          refine o_from rfl rfl (e := 41) (sz := 4) (k := (compact cmpG (ls.take (k + 1 + (k2 + 1)))).length) (by kernel_rfl) (by kernel_rfl) hc rfl rfl (by omega) (fun _ => rfl) fun c3 => ?_
          have hcl := cut_len (A := (compact cmpG (ls.take (k + 1 + (k2 + 1))))) (l := ls) (by omega)
          have hl2 := hr2.len; rw [hcl] at hl2
          refine o_setV hst .here rfl (x_clear (zs := [.nilSlice, .nilSlice, .nilSlice, .nilSlice]) (z := .agg [.nilSlice, .nilSlice, .nilSlice, .nilSlice]) rfl rfl rfl (e := 41) (by kernel_rfl) (by kernel_rfl) rfl rfl (by omega) (hst.get 0 rfl) (by rw [timesN_nil4]; exact allLeaf_rep _) (Nat.le_of_ble_eq_true rfl) (by rw [timesN_nil4, List.length_replicate]; omega)) rfl (fun σ hst => ?_)
          have hr4 := hr2.clr (k := (compact cmpG (ls.take (k + 1 + (k2 + 1)))).length) (by rw [hcl]; omega) (off := 0 + (compact cmpG (ls.take (k + 1 + (k2 + 1)))).length * 4) (by omega) (zs := timesN [.nilSlice, .nilSlice, .nilSlice, .nilSlice] (ls.length - (compact cmpG (ls.take (k + 1 + (k2 + 1)))).length)) (by rw [timesN_nil4, hcl])
          rw [take_cut, hcl] at hr4
          refine evOps_nil ?_
          refine thenQ_normal ?_
          refine ev_seq ?_
          refine ev_region rfl ?_
          refine evOps_val rfl (x_move rfl) rfl ?_
          refine evOps_val rfl (x_move rfl) rfl ?_
          have hfin : ls.take (k + 1 + (k2 + 1)) = ls := List.take_of_length_le (by have := lt_no h35; omega)
          refine evOps_val rfl (x_to (e := 41) (sz := 4) (by kernel_rfl) (by kernel_rfl) hc rfl rfl (by omega) (by omega)) rfl ?_
          refine evOps_val rfl (x_assign rfl) rfl ?_
          refine evOps_nil ?_
          refine thenQ_normal ?_
          refine ev_ret ?_
          refine blockQ_ret (thenQ_ret (loopQ_ret (blockQ_ret (thenQ_ret (?_)))))
          rw [hfin] at hr4 hAle hst ⊢
          exact end_ret1 rfl rfl ⟨c, _, _, rfl, hcap _ (compact_length ls), hr4, by rw [List.length_append, List.length_replicate]; have := compact_length (c := cmpG) ls; omega, hst⟩
      · skip
        refine ev_skip ?_
        refine blockQ_normal ?_
        refine thenQ_normal ?_
        refine ev_region rfl ?_
        refine evOps_val rfl (x_move rfl) rfl ?_
        refine evOps_val rfl (x_bin (v := .int .i64 (.ofNat ((k + 1) + 1))) rfl rfl (congrArg (fun z => some (AV.int .i64 z)) (wr_succ (by omega)))) rfl ?_
        refine evOps_val rfl (x_assign rfl) rfl ?_
        refine evOps_nil ?_
        refine loopQ_normal ⟨j4 - 1, (by have := lt_yes h15; omega), (by (iterate 75 refine OffW.put rfl ?_); exact OffW.refl _ _), k + 1, ⟨by omega, by rw [show k + 1 + 1 = k + 2 from rfl, hs, hcp, if_neg (eqC_ne h28)]; exact (take_step2 hx).symm⟩, rfl, hst⟩
    · skip
      refine ev_exit ?_
      refine thenQ_exit ?_
      refine loopQ_exit ?_
      refine blockQ_exit ?_
      refine thenQ_normal ?_
      refine ev_seq ?_
      refine ev_region rfl ?_
      refine evOps_val rfl (x_move rfl) rfl ?_
      refine evOps_val rfl (x_assign rfl) rfl ?_
      refine evOps_nil ?_
      refine thenQ_normal ?_
      refine ev_ret ?_
      have hall : ls.take (k + 1) = ls := List.take_of_length_le (by have := lt_no h15; omega)
      rw [hall] at hcp
      exact end_ret1 rfl rfl ⟨c, cells, [], by rw [hcp], hcap _ (by rw [hcp]; exact Nat.le_refl _), by rw [hcp, List.append_nil]; exact hr, by rw [hcp, List.append_nil]; exact hn, hst⟩
theorem w_LightGraph {G : Cx} (hG : Plain G) {K : KP} {g : XG} {a b c d : AV} (h : HasG K g a b c d) (mo : Int) {σ : AHeap} {L : Own} (hst : St σ K L) : EvCall Tryz.prog G 13 [.agg [a, b, c, d], .int .i64 mo] σ fun v σ' => ∃ q, v = .bool q ∧ St σ' K L := by
  have h' := h; obtain ⟨hi, ht, hf, ho⟩ := h'
  refine ev_body hG Tryz.func13 rfl (t := (PT.leaf.put (some (.agg [a, b, c, d])) 0).put (some (.int .i64 mo)) 1) (by rfl) ?_
  refine ev_seq ?_
  refine ev_region rfl ?_
  refine o_ptr hst rfl (x_box rfl rfl) (fun _ => rfl) (fun σ b1 hst => ?_)
  refine evOps_val rfl (x_assign rfl) rfl ?_
  refine evOps_nil ?_
  refine thenQ_normal ?_
  refine ev_seq ?_
  refine ev_region rfl ?_
  refine evOps_val rfl (x_move rfl) rfl ?_
  refine evOps_val rfl (x_bin rfl rfl rfl) rfl ?_
  refine evOps_val rfl (x_field rfl (k := 0) (by kernel_rfl)) rfl ?_
  refine evOps_val rfl (x_load1 rfl (hst.get 0 rfl) (by kernel_rfl) rfl) rfl ?_
  refine evOps_val rfl (x_len' hi rfl rfl rfl (e := 2) (by kernel_rfl) rfl) rfl ?_
  refine evOps_val rfl (x_min rfl rfl rfl rfl) rfl ?_
  refine evOps_val rfl (x_move rfl) rfl ?_
  refine evOps_val rfl (x_bin rfl rfl rfl) rfl ?_
  refine evOps_val rfl (x_field rfl (k := 1) (by kernel_rfl)) rfl ?_
  refine evOps_val rfl (x_load1 rfl (hst.get 0 rfl) (by kernel_rfl) rfl) rfl ?_
  refine evOps_val rfl (x_len' ht rfl rfl rfl (e := 70) (by kernel_rfl) rfl) rfl ?_
  refine evOps_val rfl (x_min rfl rfl rfl rfl) rfl ?_
  refine evOps_val rfl (x_bin rfl rfl rfl) rfl ?_
  refine evOps_val rfl (x_move rfl) rfl ?_
  refine evOps_val rfl (x_bin rfl rfl rfl) rfl ?_
  refine evOps_val rfl (x_field rfl (k := 2) (by kernel_rfl)) rfl ?_
  refine evOps_val rfl (x_load1 rfl (hst.get 0 rfl) (by kernel_rfl) rfl) rfl ?_
  refine evOps_val rfl (x_len' hf rfl rfl rfl (e := 71) (by kernel_rfl) rfl) rfl ?_
  refine evOps_val rfl (x_min rfl rfl rfl rfl) rfl ?_
  refine evOps_val rfl (x_bin rfl rfl rfl) rfl ?_
  refine evOps_val rfl (x_move rfl) rfl ?_
  refine evOps_val rfl (x_bin rfl rfl rfl) rfl ?_
  refine evOps_val rfl (x_field rfl (k := 3) (by kernel_rfl)) rfl ?_
  refine evOps_val rfl (x_load1 rfl (hst.get 0 rfl) (by kernel_rfl) rfl) rfl ?_
  refine evOps_val rfl (x_len' ho rfl rfl rfl (e := 71) (by kernel_rfl) rfl) rfl ?_
  refine evOps_val rfl (x_min rfl rfl rfl rfl) rfl ?_
  refine evOps_val rfl (x_bin rfl rfl rfl) rfl ?_
  refine evOps_val rfl (x_assign rfl) rfl ?_
  refine evOps_nil ?_
  refine thenQ_normal ?_
  refine ev_seq ?_
  refine ev_seq ?_
  refine ev_region rfl ?_
  refine evOps_val rfl (x_assign rfl) rfl ?_
  refine evOps_nil ?_
  refine thenQ_normal ?_
  refine ev_block ?_
  obtain ⟨LL1, hst, hLL1⟩ := hst.named
  refine ev_loopW [5, 6, 36, 37, 38, 39, 40, 41, 42, 43, 44, 45, 46, 47, 48, 49, 50, 51, 52, 53, 54, 55, 56, 57, 58] (fun j t σ => ∃ (i : Nat) (m : Int), j + i = g.threads.length ∧ t.get 5 = some (.int .i64 m) ∧ t.get 6 = some (.int .i64 (.ofNat i)) ∧ St σ K LL1) (g.threads.length) ⟨0, _, rfl, rfl, rfl, hst⟩ ?_
  clear hst; intro j3 t σ hoff hI; obtain ⟨i, m, hj3, hv5, hv6, hst⟩ := hI
  subst hLL1
  replace hoff := hoff.ex8 rfl rfl; obtain ⟨o5, o6, o36, o37, o38, o39, o40, o41, hoff⟩ := hoff
  replace hoff := hoff.ex8 rfl rfl; obtain ⟨o42, o43, o44, o45, o46, o47, o48, o49, hoff⟩ := hoff
  replace hoff := hoff.ex8 rfl rfl; obtain ⟨o50, o51, o52, o53, o54, o55, o56, o57, hoff⟩ := hoff
  replace hoff := hoff.ex1 rfl; obtain ⟨o58, hoff⟩ := hoff
  obtain rfl := hoff.nil; clear hoff
  replace hv5 : o5 = some _ := hv5; subst hv5
  replace hv6 : o6 = some _ := hv6; subst hv6
  refine ev_seq ?_
  refine ev_seq ?_
  refine ev_region rfl ?_
  refine evOps_val rfl (x_move rfl) rfl ?_
  refine evOps_val rfl (x_field rfl (k := 1) (by kernel_rfl)) rfl ?_
  refine evOps_val rfl (x_load1 rfl (hst.get 0 rfl) (by kernel_rfl) rfl) rfl ?_
  refine evOps_val rfl (x_len' ht rfl rfl rfl (e := 70) (by kernel_rfl) rfl) rfl ?_
  refine evOps_val rfl (x_bin rfl rfl rfl) rfl ?_
  refine o_split rfl (x_move rfl) (fun _ => rfl) (fun h41 => ?_) (fun h41 => ?_)
  · skip
    refine evOps_val rfl (x_move rfl) rfl ?_
    refine evOps_val rfl (x_move rfl) rfl ?_
    refine evOps_val rfl (x_bin rfl rfl rfl) rfl ?_
    refine evOps_val rfl (x_pick rfl rfl) rfl ?_
    refine evOps_nil ?_
    refine thenQ_normal ?_
    refine ev_cond2 rfl (fun h45 => ?_) (fun h45 => ?_)
    · skip
      refine ev_skip ?_
      refine thenQ_normal ?_
      refine ev_seq ?_
      refine ev_block ?_
      refine ev_region rfl ?_
      refine evOps_val rfl (x_move rfl) rfl ?_
      refine evOps_val rfl (x_move rfl) rfl ?_
      refine evOps_val rfl (x_bin rfl rfl rfl) rfl ?_
      refine evOps_val rfl (x_field rfl (k := 1) (by kernel_rfl)) rfl ?_
      refine evOps_val rfl (x_load1 rfl (hst.get 0 rfl) (by kernel_rfl) rfl) rfl ?_
      refine evOps_val rfl (x_move rfl) rfl ?_
      obtain ⟨x54, hx54, hi54⟩ := at_lt h41
      refine o_idx (e := 70) (m := 1) ht hx54 rfl rfl (by kernel_rfl) (by kernel_rfl) rfl rfl (fun _ => rfl) (fun p54 vs54 hp54 hl54 hr54 => ?_)
      have hr54' := hr54; obtain ⟨v54, rfl, hk54⟩ := hr54'
      refine evOps_val rfl (x_pload1 hst hp54 rfl (by kernel_rfl) rfl) rfl ?_
      refine evOps_val rfl (x_len' hk54 rfl rfl rfl (e := 78) (by kernel_rfl) rfl) rfl ?_
      refine evOps_val rfl (x_min rfl rfl rfl rfl) rfl ?_
      refine evOps_val rfl (x_bin rfl rfl rfl) rfl ?_
      refine evOps_val rfl (x_assign rfl) rfl ?_
      refine evOps_nil ?_
      refine blockQ_normal ?_
      refine thenQ_normal ?_
      refine ev_region rfl ?_
      refine evOps_val rfl (x_move rfl) rfl ?_
      refine evOps_val rfl (x_bin rfl rfl rfl) rfl ?_
      refine evOps_val rfl (x_assign rfl) rfl ?_
      refine evOps_nil ?_
      refine loopQ_normal ⟨j3 - 1, by omega, (by (iterate 50 refine OffW.put rfl ?_); exact OffW.refl _ _), i + 1, _, by omega, rfl, congrArg (fun z => some (AV.int .i64 z)) (wr_succ (by have := ht.len_le; omega)), hst⟩
    · skip
      refine ev_exit ?_
      refine thenQ_exit ?_
      refine loopQ_exit ?_
      refine blockQ_exit ?_
      refine thenQ_normal ?_
      refine ev_seq ?_
      refine ev_seq ?_
      refine ev_region rfl ?_
      refine evOps_val rfl (x_assign rfl) rfl ?_
      refine evOps_nil ?_
      refine thenQ_normal ?_
      refine ev_block ?_
      obtain ⟨LL2, hst, hLL2⟩ := hst.named
      refine ev_loopW [5, 7, 59, 60, 61, 62, 63, 64, 65, 66, 67, 68, 69, 70, 71, 72, 73, 74, 75, 76, 77, 78, 79, 80, 81, 82] (fun j t σ => ∃ (i : Nat) (m : Int), j + i = g.from_.length ∧ t.get 5 = some (.int .i64 m) ∧ t.get 7 = some (.int .i64 (.ofNat i)) ∧ St σ K LL2) (g.from_.length) ⟨0, _, rfl, rfl, rfl, hst⟩ ?_
      clear hst; intro j7 t σ hoff hI; obtain ⟨i, m, hj7, hv5, hv7, hst⟩ := hI
      subst hLL2
      replace hoff := hoff.ex8 rfl rfl; obtain ⟨o5, o7, o59, o60, o61, o62, o63, o64, hoff⟩ := hoff
      replace hoff := hoff.ex8 rfl rfl; obtain ⟨o65, o66, o67, o68, o69, o70, o71, o72, hoff⟩ := hoff
      replace hoff := hoff.ex8 rfl rfl; obtain ⟨o73, o74, o75, o76, o77, o78, o79, o80, hoff⟩ := hoff
      replace hoff := hoff.ex1 rfl; obtain ⟨o81, hoff⟩ := hoff
      replace hoff := hoff.ex1 rfl; obtain ⟨o82, hoff⟩ := hoff
      obtain rfl := hoff.nil; clear hoff
      replace hv5 : o5 = some _ := hv5; subst hv5
      replace hv7 : o7 = some _ := hv7; subst hv7
      refine ev_seq ?_
      refine ev_seq ?_
      refine ev_region rfl ?_
      refine evOps_val rfl (x_move rfl) rfl ?_
      refine evOps_val rfl (x_field rfl (k := 2) (by kernel_rfl)) rfl ?_
      refine evOps_val rfl (x_load1 rfl (hst.get 0 rfl) (by kernel_rfl) rfl) rfl ?_
      refine evOps_val rfl (x_len' hf rfl rfl rfl (e := 71) (by kernel_rfl) rfl) rfl ?_
      refine evOps_val rfl (x_bin rfl rfl rfl) rfl ?_
      refine o_split rfl (x_move rfl) (fun _ => rfl) (fun h64 => ?_) (fun h64 => ?_)
      · skip
        refine evOps_val rfl (x_move rfl) rfl ?_
        refine evOps_val rfl (x_move rfl) rfl ?_
        refine evOps_val rfl (x_bin rfl rfl rfl) rfl ?_
        refine evOps_val rfl (x_bin rfl rfl rfl) rfl ?_
        refine evOps_val rfl (x_pick rfl rfl) rfl ?_
        refine evOps_nil ?_
        refine thenQ_normal ?_
        refine ev_cond2 rfl (fun h69 => ?_) (fun h69 => ?_)
        · skip
          refine ev_skip ?_
          refine thenQ_normal ?_
          refine ev_seq ?_
          refine ev_block ?_
          refine ev_region rfl ?_
          refine evOps_val rfl (x_move rfl) rfl ?_
          refine evOps_val rfl (x_move rfl) rfl ?_
          refine evOps_val rfl (x_bin rfl rfl rfl) rfl ?_
          refine evOps_val rfl (x_field rfl (k := 2) (by kernel_rfl)) rfl ?_
          refine evOps_val rfl (x_load1 rfl (hst.get 0 rfl) (by kernel_rfl) rfl) rfl ?_
          refine evOps_val rfl (x_move rfl) rfl ?_
          obtain ⟨x78, hx78, hi78⟩ := at_lt h64
          refine o_idx (e := 71) (m := 1) hf hx78 rfl rfl (by kernel_rfl) (by kernel_rfl) rfl rfl (fun _ => rfl) (fun p78 vs78 hp78 hl78 hr78 => ?_)
          have hr78' := hr78; obtain ⟨v78, rfl, hk78⟩ := hr78'
          refine evOps_val rfl (x_pload1 hst hp78 rfl (by kernel_rfl) rfl) rfl ?_
          refine evOps_val rfl (x_len' hk78 rfl rfl rfl (e := 81) (by kernel_rfl) rfl) rfl ?_
          refine evOps_val rfl (x_min rfl rfl rfl rfl) rfl ?_
          refine evOps_val rfl (x_bin rfl rfl rfl) rfl ?_
          refine evOps_val rfl (x_assign rfl) rfl ?_
          refine evOps_nil ?_
          refine blockQ_normal ?_
          refine thenQ_normal ?_
          refine ev_region rfl ?_
          refine evOps_val rfl (x_move rfl) rfl ?_
          refine evOps_val rfl (x_bin rfl rfl rfl) rfl ?_
          refine evOps_val rfl (x_assign rfl) rfl ?_
          refine evOps_nil ?_
          refine loopQ_normal ⟨j7 - 1, by omega, (by (iterate 52 refine OffW.put rfl ?_); exact OffW.refl _ _), i + 1, _, by omega, rfl, congrArg (fun z => some (AV.int .i64 z)) (wr_succ (by have := hf.len_le; omega)), hst⟩
        · skip
          refine ev_exit ?_
          refine thenQ_exit ?_
          refine loopQ_exit ?_
          refine blockQ_exit ?_
          refine thenQ_normal ?_
          refine ev_seq ?_
          refine ev_seq ?_
          refine ev_region rfl ?_
          refine evOps_val rfl (x_assign rfl) rfl ?_
          refine evOps_nil ?_
          refine thenQ_normal ?_
          refine ev_block ?_
          obtain ⟨LL3, hst, hLL3⟩ := hst.named
          refine ev_loopW [5, 8, 83, 84, 85, 86, 87, 88, 89, 90, 91, 92, 93, 94, 95, 96, 97, 98, 99, 100, 101, 102, 103, 104, 105, 106] (fun j t σ => ∃ (i : Nat) (m : Int), j + i = g.order.length ∧ t.get 5 = some (.int .i64 m) ∧ t.get 8 = some (.int .i64 (.ofNat i)) ∧ St σ K LL3) (g.order.length) ⟨0, _, rfl, rfl, rfl, hst⟩ ?_
          clear hst; intro j11 t σ hoff hI; obtain ⟨i, m, hj11, hv5, hv8, hst⟩ := hI
          subst hLL3
          replace hoff := hoff.ex8 rfl rfl; obtain ⟨o5, o8, o83, o84, o85, o86, o87, o88, hoff⟩ := hoff
          replace hoff := hoff.ex8 rfl rfl; obtain ⟨o89, o90, o91, o92, o93, o94, o95, o96, hoff⟩ := hoff
          replace hoff := hoff.ex8 rfl rfl; obtain ⟨o97, o98, o99, o100, o101, o102, o103, o104, hoff⟩ := hoff
          replace hoff := hoff.ex1 rfl; obtain ⟨o105, hoff⟩ := hoff
          replace hoff := hoff.ex1 rfl; obtain ⟨o106, hoff⟩ := hoff
          obtain rfl := hoff.nil; clear hoff
          replace hv5 : o5 = some _ := hv5; subst hv5
          replace hv8 : o8 = some _ := hv8; subst hv8
          refine ev_seq ?_
          refine ev_seq ?_
          refine ev_region rfl ?_
          refine evOps_val rfl (x_move rfl) rfl ?_
          refine evOps_val rfl (x_field rfl (k := 3) (by kernel_rfl)) rfl ?_
          refine evOps_val rfl (x_load1 rfl (hst.get 0 rfl) (by kernel_rfl) rfl) rfl ?_
          refine evOps_val rfl (x_len' ho rfl rfl rfl (e := 71) (by kernel_rfl) rfl) rfl ?_
          refine evOps_val rfl (x_bin rfl rfl rfl) rfl ?_
          refine o_split rfl (x_move rfl) (fun _ => rfl) (fun h88 => ?_) (fun h88 => ?_)
          · skip
            refine evOps_val rfl (x_move rfl) rfl ?_
            refine evOps_val rfl (x_move rfl) rfl ?_
            refine evOps_val rfl (x_bin rfl rfl rfl) rfl ?_
            refine evOps_val rfl (x_bin rfl rfl rfl) rfl ?_
            refine evOps_val rfl (x_pick rfl rfl) rfl ?_
            refine evOps_nil ?_
            refine thenQ_normal ?_
            refine ev_cond2 rfl (fun h93 => ?_) (fun h93 => ?_)
            · skip
              refine ev_skip ?_
              refine thenQ_normal ?_
              refine ev_seq ?_
              refine ev_block ?_
              refine ev_region rfl ?_
              refine evOps_val rfl (x_move rfl) rfl ?_
              refine evOps_val rfl (x_move rfl) rfl ?_
              refine evOps_val rfl (x_bin rfl rfl rfl) rfl ?_
              refine evOps_val rfl (x_field rfl (k := 3) (by kernel_rfl)) rfl ?_
              refine evOps_val rfl (x_load1 rfl (hst.get 0 rfl) (by kernel_rfl) rfl) rfl ?_
              refine evOps_val rfl (x_move rfl) rfl ?_
              obtain ⟨x102, hx102, hi102⟩ := at_lt h88
              refine o_idx (e := 71) (m := 1) ho hx102 rfl rfl (by kernel_rfl) (by kernel_rfl) rfl rfl (fun _ => rfl) (fun p102 vs102 hp102 hl102 hr102 => ?_)
              have hr102' := hr102; obtain ⟨v102, rfl, hk102⟩ := hr102'
              refine evOps_val rfl (x_pload1 hst hp102 rfl (by kernel_rfl) rfl) rfl ?_
              refine evOps_val rfl (x_len' hk102 rfl rfl rfl (e := 81) (by kernel_rfl) rfl) rfl ?_
              refine evOps_val rfl (x_min rfl rfl rfl rfl) rfl ?_
              refine evOps_val rfl (x_bin rfl rfl rfl) rfl ?_
              refine evOps_val rfl (x_assign rfl) rfl ?_
              refine evOps_nil ?_
              refine blockQ_normal ?_
              refine thenQ_normal ?_
              refine ev_region rfl ?_
              refine evOps_val rfl (x_move rfl) rfl ?_
              refine evOps_val rfl (x_bin rfl rfl rfl) rfl ?_
              refine evOps_val rfl (x_assign rfl) rfl ?_
              refine evOps_nil ?_
              refine loopQ_normal ⟨j11 - 1, by omega, (by (iterate 52 refine OffW.put rfl ?_); exact OffW.refl _ _), i + 1, _, by omega, rfl, congrArg (fun z => some (AV.int .i64 z)) (wr_succ (by have := ho.len_le; omega)), hst⟩
            · skip
              refine ev_exit ?_
              refine thenQ_exit ?_
              refine loopQ_exit ?_
              refine blockQ_exit ?_
              refine thenQ_normal ?_
              refine ev_seq ?_
              refine ev_region rfl ?_
              refine evOps_val rfl (x_move rfl) rfl ?_
              refine evOps_val rfl (x_move rfl) rfl ?_
              refine evOps_val rfl (x_bin rfl rfl rfl) rfl ?_
              refine evOps_val rfl (x_bin rfl rfl rfl) rfl ?_
              refine evOps_val rfl (x_assign rfl) rfl ?_
              refine evOps_nil ?_
              refine thenQ_normal ?_
              refine ev_ret ?_
              exact end_ret1 rfl rfl ⟨_, rfl, hst.pop⟩
          · skip
            refine evOps_unwanted rfl rfl ?_
            refine evOps_unwanted rfl rfl ?_
            refine evOps_unwanted rfl rfl ?_
            refine evOps_unwanted rfl rfl ?_
            refine evOps_val rfl (x_pick rfl rfl) rfl ?_
            refine evOps_nil ?_
            refine thenQ_normal ?_
            refine ev_cond_false rfl ?_
            refine ev_exit ?_
            refine thenQ_exit ?_
            refine loopQ_exit ?_
            refine blockQ_exit ?_
            refine thenQ_normal ?_
            refine ev_seq ?_
            refine ev_region rfl ?_
            refine evOps_val rfl (x_move rfl) rfl ?_
            refine evOps_val rfl (x_move rfl) rfl ?_
            refine evOps_val rfl (x_bin rfl rfl rfl) rfl ?_
            refine evOps_val rfl (x_bin rfl rfl rfl) rfl ?_
            refine evOps_val rfl (x_assign rfl) rfl ?_
            refine evOps_nil ?_
            refine thenQ_normal ?_
            refine ev_ret ?_
            exact end_ret1 rfl rfl ⟨_, rfl, hst.pop⟩
      · skip
        refine evOps_unwanted rfl rfl ?_
        refine evOps_unwanted rfl rfl ?_
        refine evOps_unwanted rfl rfl ?_
        refine evOps_unwanted rfl rfl ?_
        refine evOps_val rfl (x_pick rfl rfl) rfl ?_
        refine evOps_nil ?_
        refine thenQ_normal ?_
        refine ev_cond_false rfl ?_
        refine ev_exit ?_
        refine thenQ_exit ?_
        refine loopQ_exit ?_
        refine blockQ_exit ?_
        refine thenQ_normal ?_
        refine ev_seq ?_
        refine ev_seq ?_
        refine ev_region rfl ?_
        refine evOps_val rfl (x_assign rfl) rfl ?_
        refine evOps_nil ?_
        refine thenQ_normal ?_
        refine ev_block ?_
        obtain ⟨LL4, hst, hLL4⟩ := hst.named
        refine ev_loopW [5, 8, 83, 84, 85, 86, 87, 88, 89, 90, 91, 92, 93, 94, 95, 96, 97, 98, 99, 100, 101, 102, 103, 104, 105, 106] (fun j t σ => ∃ (i : Nat) (m : Int), j + i = g.order.length ∧ t.get 5 = some (.int .i64 m) ∧ t.get 8 = some (.int .i64 (.ofNat i)) ∧ St σ K LL4) (g.order.length) ⟨0, _, rfl, rfl, rfl, hst⟩ ?_
        clear hst; intro j11 t σ hoff hI; obtain ⟨i, m, hj11, hv5, hv8, hst⟩ := hI
        subst hLL4
        replace hoff := hoff.ex8 rfl rfl; obtain ⟨o5, o8, o83, o84, o85, o86, o87, o88, hoff⟩ := hoff
        replace hoff := hoff.ex8 rfl rfl; obtain ⟨o89, o90, o91, o92, o93, o94, o95, o96, hoff⟩ := hoff
        replace hoff := hoff.ex8 rfl rfl; obtain ⟨o97, o98, o99, o100, o101, o102, o103, o104, hoff⟩ := hoff
        replace hoff := hoff.ex1 rfl; obtain ⟨o105, hoff⟩ := hoff
        replace hoff := hoff.ex1 rfl; obtain ⟨o106, hoff⟩ := hoff
        obtain rfl := hoff.nil; clear hoff
        replace hv5 : o5 = some _ := hv5; subst hv5
        replace hv8 : o8 = some _ := hv8; subst hv8
        refine ev_seq ?_
        refine ev_seq ?_
        refine ev_region rfl ?_
        refine evOps_val rfl (x_move rfl) rfl ?_
        refine evOps_val rfl (x_field rfl (k := 3) (by kernel_rfl)) rfl ?_
        refine evOps_val rfl (x_load1 rfl (hst.get 0 rfl) (by kernel_rfl) rfl) rfl ?_
        refine evOps_val rfl (x_len' ho rfl rfl rfl (e := 71) (by kernel_rfl) rfl) rfl ?_
        refine evOps_val rfl (x_bin rfl rfl rfl) rfl ?_
        refine o_split rfl (x_move rfl) (fun _ => rfl) (fun h88 => ?_) (fun h88 => ?_)
        · skip
          refine evOps_val rfl (x_move rfl) rfl ?_
          refine evOps_val rfl (x_move rfl) rfl ?_
          refine evOps_val rfl (x_bin rfl rfl rfl) rfl ?_
          refine evOps_val rfl (x_bin rfl rfl rfl) rfl ?_
          refine evOps_val rfl (x_pick rfl rfl) rfl ?_
          refine evOps_nil ?_
          refine thenQ_normal ?_
          refine ev_cond2 rfl (fun h93 => ?_) (fun h93 => ?_)
          · skip
            refine ev_skip ?_
            refine thenQ_normal ?_
            refine ev_seq ?_
            refine ev_block ?_
            refine ev_region rfl ?_
            refine evOps_val rfl (x_move rfl) rfl ?_
            refine evOps_val rfl (x_move rfl) rfl ?_
            refine evOps_val rfl (x_bin rfl rfl rfl) rfl ?_
            refine evOps_val rfl (x_field rfl (k := 3) (by kernel_rfl)) rfl ?_
            refine evOps_val rfl (x_load1 rfl (hst.get 0 rfl) (by kernel_rfl) rfl) rfl ?_
            refine evOps_val rfl (x_move rfl) rfl ?_
            obtain ⟨x102, hx102, hi102⟩ := at_lt h88
            refine o_idx (e := 71) (m := 1) ho hx102 rfl rfl (by kernel_rfl) (by kernel_rfl) rfl rfl (fun _ => rfl) (fun p102 vs102 hp102 hl102 hr102 => ?_)
            have hr102' := hr102; obtain ⟨v102, rfl, hk102⟩ := hr102'
            refine evOps_val rfl (x_pload1 hst hp102 rfl (by kernel_rfl) rfl) rfl ?_
            refine evOps_val rfl (x_len' hk102 rfl rfl rfl (e := 81) (by kernel_rfl) rfl) rfl ?_
            refine evOps_val rfl (x_min rfl rfl rfl rfl) rfl ?_
            refine evOps_val rfl (x_bin rfl rfl rfl) rfl ?_
            refine evOps_val rfl (x_assign rfl) rfl ?_
            refine evOps_nil ?_
            refine blockQ_normal ?_
            refine thenQ_normal ?_
            refine ev_region rfl ?_
            refine evOps_val rfl (x_move rfl) rfl ?_
            refine evOps_val rfl (x_bin rfl rfl rfl) rfl ?_
            refine evOps_val rfl (x_assign rfl) rfl ?_
            refine evOps_nil ?_
            refine loopQ_normal ⟨j11 - 1, by omega, (by (iterate 52 refine OffW.put rfl ?_); exact OffW.refl _ _), i + 1, _, by omega, rfl, congrArg (fun z => some (AV.int .i64 z)) (wr_succ (by have := ho.len_le; omega)), hst⟩
          · skip
            refine ev_exit ?_
            refine thenQ_exit ?_
            refine loopQ_exit ?_
            refine blockQ_exit ?_
            refine thenQ_normal ?_
            refine ev_seq ?_
            refine ev_region rfl ?_
            refine evOps_val rfl (x_move rfl) rfl ?_
            refine evOps_val rfl (x_move rfl) rfl ?_
            refine evOps_val rfl (x_bin rfl rfl rfl) rfl ?_
            refine evOps_val rfl (x_bin rfl rfl rfl) rfl ?_
            refine evOps_val rfl (x_assign rfl) rfl ?_
            refine evOps_nil ?_
            refine thenQ_normal ?_
            refine ev_ret ?_
            exact end_ret1 rfl rfl ⟨_, rfl, hst.pop⟩
        · skip
          refine evOps_unwanted rfl rfl ?_
          refine evOps_unwanted rfl rfl ?_
          refine evOps_unwanted rfl rfl ?_
          refine evOps_unwanted rfl rfl ?_
          refine evOps_val rfl (x_pick rfl rfl) rfl ?_
          refine evOps_nil ?_
          refine thenQ_normal ?_
          refine ev_cond_false rfl ?_
          refine ev_exit ?_
          refine thenQ_exit ?_
          refine loopQ_exit ?_
          refine blockQ_exit ?_
          refine thenQ_normal ?_
          refine ev_seq ?_
          refine ev_region rfl ?_
          refine evOps_val rfl (x_move rfl) rfl ?_
          refine evOps_val rfl (x_move rfl) rfl ?_
          refine evOps_val rfl (x_bin rfl rfl rfl) rfl ?_
          refine evOps_val rfl (x_bin rfl rfl rfl) rfl ?_
          refine evOps_val rfl (x_assign rfl) rfl ?_
          refine evOps_nil ?_
          refine thenQ_normal ?_
          refine ev_ret ?_
          exact end_ret1 rfl rfl ⟨_, rfl, hst.pop⟩
  · skip
    refine evOps_unwanted rfl rfl ?_
    refine evOps_unwanted rfl rfl ?_
    refine evOps_unwanted rfl rfl ?_
    refine evOps_val rfl (x_pick rfl rfl) rfl ?_
    refine evOps_nil ?_
    refine thenQ_normal ?_
    refine ev_cond_false rfl ?_
    refine ev_exit ?_
    refine thenQ_exit ?_
    refine loopQ_exit ?_
    refine blockQ_exit ?_
    refine thenQ_normal ?_
    refine ev_seq ?_
    refine ev_seq ?_
    refine ev_region rfl ?_
    refine evOps_val rfl (x_assign rfl) rfl ?_
    refine evOps_nil ?_
    refine thenQ_normal ?_
    refine ev_block ?_
    obtain ⟨LL5, hst, hLL5⟩ := hst.named
    refine ev_loopW [5, 7, 59, 60, 61, 62, 63, 64, 65, 66, 67, 68, 69, 70, 71, 72, 73, 74, 75, 76, 77, 78, 79, 80, 81, 82] (fun j t σ => ∃ (i : Nat) (m : Int), j + i = g.from_.length ∧ t.get 5 = some (.int .i64 m) ∧ t.get 7 = some (.int .i64 (.ofNat i)) ∧ St σ K LL5) (g.from_.length) ⟨0, _, rfl, rfl, rfl, hst⟩ ?_
    clear hst; intro j7 t σ hoff hI; obtain ⟨i, m, hj7, hv5, hv7, hst⟩ := hI
    subst hLL5
    replace hoff := hoff.ex8 rfl rfl; obtain ⟨o5, o7, o59, o60, o61, o62, o63, o64, hoff⟩ := hoff
    replace hoff := hoff.ex8 rfl rfl; obtain ⟨o65, o66, o67, o68, o69, o70, o71, o72, hoff⟩ := hoff
    replace hoff := hoff.ex8 rfl rfl; obtain ⟨o73, o74, o75, o76, o77, o78, o79, o80, hoff⟩ := hoff
    replace hoff := hoff.ex1 rfl; obtain ⟨o81, hoff⟩ := hoff
    replace hoff := hoff.ex1 rfl; obtain ⟨o82, hoff⟩ := hoff
    obtain rfl := hoff.nil; clear hoff
    replace hv5 : o5 = some _ := hv5; subst hv5
    replace hv7 : o7 = some _ := hv7; subst hv7
    refine ev_seq ?_
    refine ev_seq ?_
    refine ev_region rfl ?_
    refine evOps_val rfl (x_move rfl) rfl ?_
    refine evOps_val rfl (x_field rfl (k := 2) (by kernel_rfl)) rfl ?_
    refine evOps_val rfl (x_load1 rfl (hst.get 0 rfl) (by kernel_rfl) rfl) rfl ?_
    refine evOps_val rfl (x_len' hf rfl rfl rfl (e := 71) (by kernel_rfl) rfl) rfl ?_
    refine evOps_val rfl (x_bin rfl rfl rfl) rfl ?_
    refine o_split rfl (x_move rfl) (fun _ => rfl) (fun h64 => ?_) (fun h64 => ?_)
    · skip
      refine evOps_val rfl (x_move rfl) rfl ?_
      refine evOps_val rfl (x_move rfl) rfl ?_
      refine evOps_val rfl (x_bin rfl rfl rfl) rfl ?_
      refine evOps_val rfl (x_bin rfl rfl rfl) rfl ?_
      refine evOps_val rfl (x_pick rfl rfl) rfl ?_
      refine evOps_nil ?_
      refine thenQ_normal ?_
      refine ev_cond2 rfl (fun h69 => ?_) (fun h69 => ?_)
      · skip
        refine ev_skip ?_
        refine thenQ_normal ?_
        refine ev_seq ?_
        refine ev_block ?_
        refine ev_region rfl ?_
        refine evOps_val rfl (x_move rfl) rfl ?_
        refine evOps_val rfl (x_move rfl) rfl ?_
        refine evOps_val rfl (x_bin rfl rfl rfl) rfl ?_
        refine evOps_val rfl (x_field rfl (k := 2) (by kernel_rfl)) rfl ?_
        refine evOps_val rfl (x_load1 rfl (hst.get 0 rfl) (by kernel_rfl) rfl) rfl ?_
        refine evOps_val rfl (x_move rfl) rfl ?_
        obtain ⟨x78, hx78, hi78⟩ := at_lt h64
        refine o_idx (e := 71) (m := 1) hf hx78 rfl rfl (by kernel_rfl) (by kernel_rfl) rfl rfl (fun _ => rfl) (fun p78 vs78 hp78 hl78 hr78 => ?_)
        have hr78' := hr78; obtain ⟨v78, rfl, hk78⟩ := hr78'
        refine evOps_val rfl (x_pload1 hst hp78 rfl (by kernel_rfl) rfl) rfl ?_
        refine evOps_val rfl (x_len' hk78 rfl rfl rfl (e := 81) (by kernel_rfl) rfl) rfl ?_
        refine evOps_val rfl (x_min rfl rfl rfl rfl) rfl ?_
        refine evOps_val rfl (x_bin rfl rfl rfl) rfl ?_
        refine evOps_val rfl (x_assign rfl) rfl ?_
        refine evOps_nil ?_
        refine blockQ_normal ?_
        refine thenQ_normal ?_
        refine ev_region rfl ?_
        refine evOps_val rfl (x_move rfl) rfl ?_
        refine evOps_val rfl (x_bin rfl rfl rfl) rfl ?_
        refine evOps_val rfl (x_assign rfl) rfl ?_
        refine evOps_nil ?_
        refine loopQ_normal ⟨j7 - 1, by omega, (by (iterate 52 refine OffW.put rfl ?_); exact OffW.refl _ _), i + 1, _, by omega, rfl, congrArg (fun z => some (AV.int .i64 z)) (wr_succ (by have := hf.len_le; omega)), hst⟩
      · skip
        refine ev_exit ?_
        refine thenQ_exit ?_
        refine loopQ_exit ?_
        refine blockQ_exit ?_
        refine thenQ_normal ?_
        refine ev_seq ?_
        refine ev_seq ?_
        refine ev_region rfl ?_
        refine evOps_val rfl (x_assign rfl) rfl ?_
        refine evOps_nil ?_
        refine thenQ_normal ?_
        refine ev_block ?_
        obtain ⟨LL6, hst, hLL6⟩ := hst.named
        refine ev_loopW [5, 8, 83, 84, 85, 86, 87, 88, 89, 90, 91, 92, 93, 94, 95, 96, 97, 98, 99, 100, 101, 102, 103, 104, 105, 106] (fun j t σ => ∃ (i : Nat) (m : Int), j + i = g.order.length ∧ t.get 5 = some (.int .i64 m) ∧ t.get 8 = some (.int .i64 (.ofNat i)) ∧ St σ K LL6) (g.order.length) ⟨0, _, rfl, rfl, rfl, hst⟩ ?_
        clear hst; intro j11 t σ hoff hI; obtain ⟨i, m, hj11, hv5, hv8, hst⟩ := hI
        subst hLL6
        replace hoff := hoff.ex8 rfl rfl; obtain ⟨o5, o8, o83, o84, o85, o86, o87, o88, hoff⟩ := hoff
        replace hoff := hoff.ex8 rfl rfl; obtain ⟨o89, o90, o91, o92, o93, o94, o95, o96, hoff⟩ := hoff
        replace hoff := hoff.ex8 rfl rfl; obtain ⟨o97, o98, o99, o100, o101, o102, o103, o104, hoff⟩ := hoff
        replace hoff := hoff.ex1 rfl; obtain ⟨o105, hoff⟩ := hoff
        replace hoff := hoff.ex1 rfl; obtain ⟨o106, hoff⟩ := hoff
        obtain rfl := hoff.nil; clear hoff
        replace hv5 : o5 = some _ := hv5; subst hv5
        replace hv8 : o8 = some _ := hv8; subst hv8
        refine ev_seq ?_
        refine ev_seq ?_
        refine ev_region rfl ?_
        refine evOps_val rfl (x_move rfl) rfl ?_
        refine evOps_val rfl (x_field rfl (k := 3) (by kernel_rfl)) rfl ?_
        refine evOps_val rfl (x_load1 rfl (hst.get 0 rfl) (by kernel_rfl) rfl) rfl ?_
        refine evOps_val rfl (x_len' ho rfl rfl rfl (e := 71) (by kernel_rfl) rfl) rfl ?_
        refine evOps_val rfl (x_bin rfl rfl rfl) rfl ?_
        refine o_split rfl (x_move rfl) (fun _ => rfl) (fun h88 => ?_) (fun h88 => ?_)
        · skip
          refine evOps_val rfl (x_move rfl) rfl ?_
          refine evOps_val rfl (x_move rfl) rfl ?_
          refine evOps_val rfl (x_bin rfl rfl rfl) rfl ?_
          refine evOps_val rfl (x_bin rfl rfl rfl) rfl ?_
          refine evOps_val rfl (x_pick rfl rfl) rfl ?_
          refine evOps_nil ?_
          refine thenQ_normal ?_
          refine ev_cond2 rfl (fun h93 => ?_) (fun h93 => ?_)
          · skip
            refine ev_skip ?_
            refine thenQ_normal ?_
            refine ev_seq ?_
            refine ev_block ?_
            refine ev_region rfl ?_
            refine evOps_val rfl (x_move rfl) rfl ?_
            refine evOps_val rfl (x_move rfl) rfl ?_
            refine evOps_val rfl (x_bin rfl rfl rfl) rfl ?_
            refine evOps_val rfl (x_field rfl (k := 3) (by kernel_rfl)) rfl ?_
            refine evOps_val rfl (x_load1 rfl (hst.get 0 rfl) (by kernel_rfl) rfl) rfl ?_
            refine evOps_val rfl (x_move rfl) rfl ?_
            obtain ⟨x102, hx102, hi102⟩ := at_lt h88
            refine o_idx (e := 71) (m := 1) ho hx102 rfl rfl (by kernel_rfl) (by kernel_rfl) rfl rfl (fun _ => rfl) (fun p102 vs102 hp102 hl102 hr102 => ?_)
            have hr102' := hr102; obtain ⟨v102, rfl, hk102⟩ := hr102'
            refine evOps_val rfl (x_pload1 hst hp102 rfl (by kernel_rfl) rfl) rfl ?_
            refine evOps_val rfl (x_len' hk102 rfl rfl rfl (e := 81) (by kernel_rfl) rfl) rfl ?_
            refine evOps_val rfl (x_min rfl rfl rfl rfl) rfl ?_
            refine evOps_val rfl (x_bin rfl rfl rfl) rfl ?_
            refine evOps_val rfl (x_assign rfl) rfl ?_
            refine evOps_nil ?_
            refine blockQ_normal ?_
            refine thenQ_normal ?_
            refine ev_region rfl ?_
            refine evOps_val rfl (x_move rfl) rfl ?_
            refine evOps_val rfl (x_bin rfl rfl rfl) rfl ?_
            refine evOps_val rfl (x_assign rfl) rfl ?_
            refine evOps_nil ?_
            refine loopQ_normal ⟨j11 - 1, by omega, (by (iterate 52 refine OffW.put rfl ?_); exact OffW.refl _ _), i + 1, _, by omega, rfl, congrArg (fun z => some (AV.int .i64 z)) (wr_succ (by have := ho.len_le; omega)), hst⟩
          · skip
            refine ev_exit ?_
            refine thenQ_exit ?_
            refine loopQ_exit ?_
            refine blockQ_exit ?_
            refine thenQ_normal ?_
            refine ev_seq ?_
            refine ev_region rfl ?_
            refine evOps_val rfl (x_move rfl) rfl ?_
            refine evOps_val rfl (x_move rfl) rfl ?_
            refine evOps_val rfl (x_bin rfl rfl rfl) rfl ?_
            refine evOps_val rfl (x_bin rfl rfl rfl) rfl ?_
            refine evOps_val rfl (x_assign rfl) rfl ?_
            refine evOps_nil ?_
            refine thenQ_normal ?_
            refine ev_ret ?_
            exact end_ret1 rfl rfl ⟨_, rfl, hst.pop⟩
        · skip
          refine evOps_unwanted rfl rfl ?_
          refine evOps_unwanted rfl rfl ?_
          refine evOps_unwanted rfl rfl ?_
          refine evOps_unwanted rfl rfl ?_
          refine evOps_val rfl (x_pick rfl rfl) rfl ?_
          refine evOps_nil ?_
          refine thenQ_normal ?_
          refine ev_cond_false rfl ?_
          refine ev_exit ?_
          refine thenQ_exit ?_
          refine loopQ_exit ?_
          refine blockQ_exit ?_
          refine thenQ_normal ?_
          refine ev_seq ?_
          refine ev_region rfl ?_
          refine evOps_val rfl (x_move rfl) rfl ?_
          refine evOps_val rfl (x_move rfl) rfl ?_
          refine evOps_val rfl (x_bin rfl rfl rfl) rfl ?_
          refine evOps_val rfl (x_bin rfl rfl rfl) rfl ?_
          refine evOps_val rfl (x_assign rfl) rfl ?_
          refine evOps_nil ?_
          refine thenQ_normal ?_
          refine ev_ret ?_
          exact end_ret1 rfl rfl ⟨_, rfl, hst.pop⟩
    · skip
      refine evOps_unwanted rfl rfl ?_
      refine evOps_unwanted rfl rfl ?_
      refine evOps_unwanted rfl rfl ?_
      refine evOps_unwanted rfl rfl ?_
      refine evOps_val rfl (x_pick rfl rfl) rfl ?_
      refine evOps_nil ?_
      refine thenQ_normal ?_
      refine ev_cond_false rfl ?_
      refine ev_exit ?_
      refine thenQ_exit ?_
      refine loopQ_exit ?_
      refine blockQ_exit ?_
      refine thenQ_normal ?_
      refine ev_seq ?_
      refine ev_seq ?_
      refine ev_region rfl ?_
      refine evOps_val rfl (x_assign rfl) rfl ?_
      refine evOps_nil ?_
      refine thenQ_normal ?_
      refine ev_block ?_
      obtain ⟨LL7, hst, hLL7⟩ := hst.named
      refine ev_loopW [5, 8, 83, 84, 85, 86, 87, 88, 89, 90, 91, 92, 93, 94, 95, 96, 97, 98, 99, 100, 101, 102, 103, 104, 105, 106] (fun j t σ => ∃ (i : Nat) (m : Int), j + i = g.order.length ∧ t.get 5 = some (.int .i64 m) ∧ t.get 8 = some (.int .i64 (.ofNat i)) ∧ St σ K LL7) (g.order.length) ⟨0, _, rfl, rfl, rfl, hst⟩ ?_
      clear hst; intro j11 t σ hoff hI; obtain ⟨i, m, hj11, hv5, hv8, hst⟩ := hI
      subst hLL7
      replace hoff := hoff.ex8 rfl rfl; obtain ⟨o5, o8, o83, o84, o85, o86, o87, o88, hoff⟩ := hoff
      replace hoff := hoff.ex8 rfl rfl; obtain ⟨o89, o90, o91, o92, o93, o94, o95, o96, hoff⟩ := hoff
      replace hoff := hoff.ex8 rfl rfl; obtain ⟨o97, o98, o99, o100, o101, o102, o103, o104, hoff⟩ := hoff
      replace hoff := hoff.ex1 rfl; obtain ⟨o105, hoff⟩ := hoff
      replace hoff := hoff.ex1 rfl; obtain ⟨o106, hoff⟩ := hoff
      obtain rfl := hoff.nil; clear hoff
      replace hv5 : o5 = some _ := hv5; subst hv5
      replace hv8 : o8 = some _ := hv8; subst hv8
      refine ev_seq ?_
      refine ev_seq ?_
      refine ev_region rfl ?_
      refine evOps_val rfl (x_move rfl) rfl ?_
      refine evOps_val rfl (x_field rfl (k := 3) (by kernel_rfl)) rfl ?_
      refine evOps_val rfl (x_load1 rfl (hst.get 0 rfl) (by kernel_rfl) rfl) rfl ?_
      refine evOps_val rfl (x_len' ho rfl rfl rfl (e := 71) (by kernel_rfl) rfl) rfl ?_
      refine evOps_val rfl (x_bin rfl rfl rfl) rfl ?_
      refine o_split rfl (x_move rfl) (fun _ => rfl) (fun h88 => ?_) (fun h88 => ?_)
      · skip
        refine evOps_val rfl (x_move rfl) rfl ?_
        refine evOps_val rfl (x_move rfl) rfl ?_
        refine evOps_val rfl (x_bin rfl rfl rfl) rfl ?_
        refine evOps_val rfl (x_bin rfl rfl rfl) rfl ?_
        refine evOps_val rfl (x_pick rfl rfl) rfl ?_
        refine evOps_nil ?_
        refine thenQ_normal ?_
        refine ev_cond2 rfl (fun h93 => ?_) (fun h93 => ?_)
        · skip
          refine ev_skip ?_
          refine thenQ_normal ?_
          refine ev_seq ?_
          refine ev_block ?_
          refine ev_region rfl ?_
          refine evOps_val rfl (x_move rfl) rfl ?_
          refine evOps_val rfl (x_move rfl) rfl ?_
          refine evOps_val rfl (x_bin rfl rfl rfl) rfl ?_
          refine evOps_val rfl (x_field rfl (k := 3) (by kernel_rfl)) rfl ?_
          refine evOps_val rfl (x_load1 rfl (hst.get 0 rfl) (by kernel_rfl) rfl) rfl ?_
          refine evOps_val rfl (x_move rfl) rfl ?_
          obtain ⟨x102, hx102, hi102⟩ := at_lt h88
          refine o_idx (e := 71) (m := 1) ho hx102 rfl rfl (by kernel_rfl) (by kernel_rfl) rfl rfl (fun _ => rfl) (fun p102 vs102 hp102 hl102 hr102 => ?_)
          have hr102' := hr102; obtain ⟨v102, rfl, hk102⟩ := hr102'
          refine evOps_val rfl (x_pload1 hst hp102 rfl (by kernel_rfl) rfl) rfl ?_
          refine evOps_val rfl (x_len' hk102 rfl rfl rfl (e := 81) (by kernel_rfl) rfl) rfl ?_
          refine evOps_val rfl (x_min rfl rfl rfl rfl) rfl ?_
          refine evOps_val rfl (x_bin rfl rfl rfl) rfl ?_
          refine evOps_val rfl (x_assign rfl) rfl ?_
          refine evOps_nil ?_
          refine blockQ_normal ?_
          refine thenQ_normal ?_
          refine ev_region rfl ?_
          refine evOps_val rfl (x_move rfl) rfl ?_
          refine evOps_val rfl (x_bin rfl rfl rfl) rfl ?_
          refine evOps_val rfl (x_assign rfl) rfl ?_
          refine evOps_nil ?_
          refine loopQ_normal ⟨j11 - 1, by omega, (by (iterate 52 refine OffW.put rfl ?_); exact OffW.refl _ _), i + 1, _, by omega, rfl, congrArg (fun z => some (AV.int .i64 z)) (wr_succ (by have := ho.len_le; omega)), hst⟩
        · skip
          refine ev_exit ?_
          refine thenQ_exit ?_
          refine loopQ_exit ?_
          refine blockQ_exit ?_
          refine thenQ_normal ?_
          refine ev_seq ?_
          refine ev_region rfl ?_
          refine evOps_val rfl (x_move rfl) rfl ?_
          refine evOps_val rfl (x_move rfl) rfl ?_
          refine evOps_val rfl (x_bin rfl rfl rfl) rfl ?_
          refine evOps_val rfl (x_bin rfl rfl rfl) rfl ?_
          refine evOps_val rfl (x_assign rfl) rfl ?_
          refine evOps_nil ?_
          refine thenQ_normal ?_
          refine ev_ret ?_
          exact end_ret1 rfl rfl ⟨_, rfl, hst.pop⟩
      · skip
        refine evOps_unwanted rfl rfl ?_
        refine evOps_unwanted rfl rfl ?_
        refine evOps_unwanted rfl rfl ?_
        refine evOps_unwanted rfl rfl ?_
        refine evOps_val rfl (x_pick rfl rfl) rfl ?_
        refine evOps_nil ?_
        refine thenQ_normal ?_
        refine ev_cond_false rfl ?_
        refine ev_exit ?_
        refine thenQ_exit ?_
        refine loopQ_exit ?_
        refine blockQ_exit ?_
        refine thenQ_normal ?_
        refine ev_seq ?_
        refine ev_region rfl ?_
        refine evOps_val rfl (x_move rfl) rfl ?_
        refine evOps_val rfl (x_move rfl) rfl ?_
        refine evOps_val rfl (x_bin rfl rfl rfl) rfl ?_
        refine evOps_val rfl (x_bin rfl rfl rfl) rfl ?_
        refine evOps_val rfl (x_assign rfl) rfl ?_
        refine evOps_nil ?_
        refine thenQ_normal ?_
        refine ev_ret ?_
        exact end_ret1 rfl rfl ⟨_, rfl, hst.pop⟩
theorem eqI_nn {x y : Int} (h : notB (eqI x y) = false) : x = y := eqC_eq0 (notB_f h)
theorem w_Graphs {G : Cx} (hG : Plain G) {K : KP} {l1 l2 : List XG} {v1 v2 : AV} (h1 : HasS K 4 (RG K) l1 v1) (h2 : HasS K 4 (RG K) l2 v2) {σ : AHeap} {L : Own} (hst : St σ K L) :
    EvCall Tryz.prog G 6 [v1, v2] σ fun v σ' => (∃ q, v = .bool q ∧ (q = true ↔ l1 = l2)) ∧ St σ' K L := by
  refine ev_body hG Tryz.func6 rfl (t := (PT.leaf.put (some (v1)) 0).put (some (v2)) 1) (by rfl) ?_
  refine ev_seq ?_
  refine ev_region rfl ?_
  refine evOps_val rfl (x_assign rfl) rfl ?_
  refine evOps_nil ?_
  refine thenQ_normal ?_
  refine ev_seq ?_
  refine ev_seq ?_
  refine ev_region rfl ?_
  refine evOps_val rfl (x_move rfl) rfl ?_
  refine evOps_val rfl (x_len' h1 rfl rfl rfl (e := 41) (by kernel_rfl) rfl) rfl ?_
  refine evOps_val rfl (x_move rfl) rfl ?_
  refine evOps_val rfl (x_len' h2 rfl rfl rfl (e := 41) (by kernel_rfl) rfl) rfl ?_
  refine evOps_val rfl (x_bin rfl rfl rfl) rfl ?_
  refine evOps_nil ?_
  refine thenQ_normal ?_
  refine ev_cond2 rfl (fun h10 => ?_) (fun h10 => ?_)
  · skip
    refine ev_seq ?_
    refine ev_region rfl ?_
    refine evOps_val rfl (x_assign rfl) rfl ?_
    refine evOps_nil ?_
    refine thenQ_normal ?_
    refine ev_ret ?_
    refine thenQ_ret (?_)
    exact end_ret1 rfl rfl ⟨⟨_, rfl, fun h => absurd h (by decide), fun e => absurd (congrArg (fun x => Int.ofNat x.length) e) (eqC_ne (notB_t h10))⟩, hst⟩
  · have hll : l1.length = l2.length := Int.ofNat.inj (eqI_nn h10)
    refine ev_skip ?_
    refine thenQ_normal ?_
    refine ev_seq ?_
    refine ev_seq ?_
    refine ev_region rfl ?_
    refine evOps_val rfl (x_assign rfl) rfl ?_
    refine evOps_nil ?_
    refine thenQ_normal ?_
    refine ev_block ?_
    obtain ⟨LL1, hst, hLL1⟩ := hst.named
    refine ev_loopW [4, 5, 11, 12, 13, 14, 15, 16, 17, 18, 19, 20, 21, 22, 23, 24, 25, 26] (fun j t σ => ∃ (i : Nat), (j + i = l1.length ∧ l1.take i = l2.take i) ∧ t.get 5 = some (.int .i64 (.ofNat i)) ∧ St σ K LL1) (l1.length) ⟨0, ⟨rfl, rfl⟩, rfl, hst⟩ ?_
    clear hst; intro j4 t σ hoff hI; obtain ⟨i, ⟨hj4, hpre⟩, hv5, hst⟩ := hI
    subst hLL1
    replace hoff := hoff.ex8 rfl rfl; obtain ⟨o4, o5, o11, o12, o13, o14, o15, o16, hoff⟩ := hoff
    replace hoff := hoff.ex8 rfl rfl; obtain ⟨o17, o18, o19, o20, o21, o22, o23, o24, hoff⟩ := hoff
    replace hoff := hoff.ex1 rfl; obtain ⟨o25, hoff⟩ := hoff
    replace hoff := hoff.ex1 rfl; obtain ⟨o26, hoff⟩ := hoff
    obtain rfl := hoff.nil; clear hoff
    replace hv5 : o5 = some _ := hv5; subst hv5
    refine ev_seq ?_
    refine ev_seq ?_
    refine ev_region rfl ?_
    refine evOps_val rfl (x_move rfl) rfl ?_
    refine evOps_val rfl (x_move rfl) rfl ?_
    refine evOps_val rfl (x_len' h1 rfl rfl rfl (e := 41) (by kernel_rfl) rfl) rfl ?_
    refine evOps_val rfl (x_bin rfl rfl rfl) rfl ?_
    refine evOps_nil ?_
    refine thenQ_normal ?_
    refine ev_cond2 rfl (fun h14 => ?_) (fun h14 => ?_)
    · skip
      refine ev_skip ?_
      refine thenQ_normal ?_
      refine ev_seq ?_
      refine ev_block ?_
      refine ev_seq ?_
      refine ev_region_plan (l := [(0, []), (1, []), (2, []), (3, []), (4, []), (5, []), (6, []), (7, []), (8, []), (9, [])]) (by kernel_rfl) (by kernel_rfl) ?_
      refine evPlan_val rfl rfl (x_move rfl) rfl ?_
      refine evPlan_val rfl rfl (x_move rfl) rfl ?_
      obtain ⟨x19, hx19, hi19⟩ := at_lt h14
      refine p_idx (e := 41) (m := 4) h1 hx19 rfl rfl rfl (by kernel_rfl) (by kernel_rfl) rfl rfl (fun _ => rfl) (fun p19 vs19 hp19 hl19 hr19 => ?_)
      have hr19' := hr19; obtain ⟨a19, b19, c19, d19, rfl, hg19⟩ := hr19'
      refine evPlan_val rfl rfl (x_ploadW hst hp19 rfl (by kernel_rfl) rfl) rfl ?_
      refine evPlan_val rfl rfl (x_move rfl) rfl ?_
      refine evPlan_val rfl rfl (x_move rfl) rfl ?_
      obtain ⟨x23, hx23⟩ := at_of (show i < l2.length by have := lt_yes h14; omega)
      refine p_idx (e := 41) (m := 4) h2 hx23 rfl rfl rfl (by kernel_rfl) (by kernel_rfl) rfl rfl (fun _ => rfl) (fun p23 vs23 hp23 hl23 hr23 => ?_)
      have hr23' := hr23; obtain ⟨a23, b23, c23, d23, rfl, hg23⟩ := hr23'
      refine evPlan_val rfl rfl (x_ploadW hst hp23 rfl (by kernel_rfl) rfl) rfl ?_
      refine p_callV rfl rfl (x_call rfl rfl rfl (by kernel_rfl)) (fun _ => rfl) (w_Graph hG hst hg19 hg23) (fun σ hst => ?_)
      refine ⟨still_nil, ?_⟩
      refine evPlan_val rfl rfl (x_not rfl) rfl ?_
      refine evPlan_nil ?_
      refine thenQ_normal ?_
      refine ev_cond2 rfl (fun h26 => ?_) (fun h26 => ?_)
      · skip
        refine ev_seq ?_
        refine ev_region rfl ?_
        refine evOps_val rfl (x_assign rfl) rfl ?_
        refine evOps_nil ?_
        refine thenQ_normal ?_
        refine ev_ret ?_
        refine blockQ_ret (thenQ_ret (loopQ_ret (blockQ_ret (thenQ_ret (?_)))))
        exact end_ret1 rfl rfl ⟨⟨_, rfl, fun h => absurd h (by decide), fun e => by subst e; rw [hx19] at hx23; cases hx23; exact absurd h26 (by rw [sameX_iff.2 rfl]; decide)⟩, hst⟩
      · skip
        refine ev_skip ?_
        refine blockQ_normal ?_
        refine thenQ_normal ?_
        refine ev_region rfl ?_
        refine evOps_val rfl (x_move rfl) rfl ?_
        refine evOps_val rfl (x_bin rfl rfl rfl) rfl ?_
        refine evOps_val rfl (x_assign rfl) rfl ?_
        refine evOps_nil ?_
        refine loopQ_normal ⟨j4 - 1, (by have := lt_yes h14; omega), (by (iterate 35 refine OffW.put rfl ?_); exact OffW.refl _ _), i + 1, ⟨by have := lt_yes h14; omega, by rw [take_step2 hx19, take_step2 hx23, hpre, sameX_iff.1 (notB_f h26)]⟩, congrArg (fun z => some (AV.int .i64 z)) (wr_succ (by have := h1.len_le; omega)), hst⟩
    · skip
      refine ev_exit ?_
      refine thenQ_exit ?_
      refine loopQ_exit ?_
      refine blockQ_exit ?_
      refine thenQ_normal ?_
      refine ev_seq ?_
      refine ev_region rfl ?_
      refine evOps_val rfl (x_assign rfl) rfl ?_
      refine evOps_nil ?_
      refine thenQ_normal ?_
      refine ev_ret ?_
      exact end_ret1 rfl rfl ⟨⟨_, rfl, fun _ => by
          have hi1 : l1.length ≤ i := lt_no h14
          have e1 := List.take_of_length_le hi1
          have e2 := List.take_of_length_le (show l2.length ≤ i by omega)
          rw [e1, e2] at hpre; exact hpre, fun _ => rfl⟩, hst⟩
theorem w_FewGraphs {G : Cx} (hG : Plain G) {K : KP} {l : List XG} {v : AV} (h : HasS K 4 (RG K) l v) (nn : Nat) (mo : Int) {σ : AHeap} {L : Own} (hst : St σ K L) :
    EvCall Tryz.prog G 5 [v, .int .i64 (.ofNat nn), .int .i64 mo] σ fun u σ' => (∃ q, u = .bool q ∧ (q = true → l.length ≤ nn)) ∧ St σ' K L := by
  refine ev_body hG Tryz.func5 rfl (t := ((PT.leaf.put (some (v)) 0).put (some (.int .i64 (.ofNat nn))) 1).put (some (.int .i64 mo)) 2) (by rfl) ?_
  refine ev_seq ?_
  refine ev_region rfl ?_
  refine evOps_val rfl (x_assign rfl) rfl ?_
  refine evOps_nil ?_
  refine thenQ_normal ?_
  refine ev_seq ?_
  refine ev_seq ?_
  refine ev_region rfl ?_
  refine evOps_val rfl (x_assign rfl) rfl ?_
  refine evOps_nil ?_
  refine thenQ_normal ?_
  refine ev_block ?_
  obtain ⟨LL1, hst, hLL1⟩ := hst.named
  refine ev_loopW [6, 7, 8, 9, 10, 11, 12, 13, 14, 15, 16, 17, 18, 19, 20, 21, 22, 23, 24, 25] (fun j t σ => ∃ (i : Nat), j + i = l.length ∧ t.get 7 = some (.int .i64 (.ofNat i)) ∧ St σ K LL1) (l.length) ⟨0, rfl, rfl, hst⟩ ?_
  clear hst; intro j2 t σ hoff hI; obtain ⟨i, hj2, hv7, hst⟩ := hI
  subst hLL1
  replace hoff := hoff.ex8 rfl rfl; obtain ⟨o6, o7, o8, o9, o10, o11, o12, o13, hoff⟩ := hoff
  replace hoff := hoff.ex8 rfl rfl; obtain ⟨o14, o15, o16, o17, o18, o19, o20, o21, hoff⟩ := hoff
  replace hoff := hoff.ex4 rfl; obtain ⟨o22, o23, o24, o25, hoff⟩ := hoff
  obtain rfl := hoff.nil; clear hoff
  replace hv7 : o7 = some _ := hv7; subst hv7
  refine ev_seq ?_
  refine ev_seq ?_
  refine ev_region rfl ?_
  refine evOps_val rfl (x_move rfl) rfl ?_
  refine evOps_val rfl (x_move rfl) rfl ?_
  refine evOps_val rfl (x_len' h rfl rfl rfl (e := 41) (by kernel_rfl) rfl) rfl ?_
  refine evOps_val rfl (x_bin rfl rfl rfl) rfl ?_
  refine o_split rfl (x_move rfl) (fun _ => rfl) (fun h12 => ?_) (fun h12 => ?_)
  · skip
    refine evOps_val rfl (x_move rfl) rfl ?_
    refine evOps_val rfl (x_move rfl) rfl ?_
    refine evOps_val rfl (x_bin rfl rfl rfl) rfl ?_
    refine evOps_val rfl (x_pick rfl rfl) rfl ?_
    refine evOps_nil ?_
    refine thenQ_normal ?_
    refine ev_cond2 rfl (fun h16 => ?_) (fun h16 => ?_)
    · skip
      refine ev_skip ?_
      refine thenQ_normal ?_
      refine ev_seq ?_
      refine ev_block ?_
      refine ev_seq ?_
      refine ev_region rfl ?_
      refine evOps_val rfl (x_move rfl) rfl ?_
      refine evOps_val rfl (x_move rfl) rfl ?_
      obtain ⟨x21, hx21, hi21⟩ := at_lt h12
      refine o_idx (e := 41) (m := 4) h hx21 rfl rfl (by kernel_rfl) (by kernel_rfl) rfl rfl (fun _ => rfl) (fun p21 vs21 hp21 hl21 hr21 => ?_)
      have hr21' := hr21; obtain ⟨a21, b21, c21, d21, rfl, hg21⟩ := hr21'
      refine evOps_val rfl (x_ploadW hst hp21 rfl (by kernel_rfl) rfl) rfl ?_
      refine evOps_val rfl (x_move rfl) rfl ?_
      refine o_call rfl (x_call rfl rfl rfl (by kernel_rfl)) (fun _ => rfl) (w_LightGraph hG hg21 _ hst) ?_
      rintro _ σ ⟨q24, rfl, hst⟩
      refine evOps_val rfl (x_not rfl) rfl ?_
      refine evOps_nil ?_
      refine thenQ_normal ?_
      refine ev_cond2 rfl (fun h25 => ?_) (fun h25 => ?_)
      · skip
        refine ev_seq ?_
        refine ev_region rfl ?_
        refine evOps_val rfl (x_assign rfl) rfl ?_
        refine evOps_nil ?_
        refine thenQ_normal ?_
        refine ev_ret ?_
        refine blockQ_ret (thenQ_ret (loopQ_ret (blockQ_ret (thenQ_ret (?_)))))
        exact end_ret1 rfl rfl ⟨⟨_, rfl, fun h => absurd h (by decide)⟩, hst⟩
      · skip
        refine ev_skip ?_
        refine blockQ_normal ?_
        refine thenQ_normal ?_
        refine ev_region rfl ?_
        refine evOps_val rfl (x_move rfl) rfl ?_
        refine evOps_val rfl (x_bin rfl rfl rfl) rfl ?_
        refine evOps_val rfl (x_assign rfl) rfl ?_
        refine evOps_nil ?_
        refine loopQ_normal ⟨j2 - 1, (by have := lt_yes h12; omega), (by (iterate 39 refine OffW.put rfl ?_); exact OffW.refl _ _), i + 1, by have := lt_yes h12; omega, congrArg (fun z => some (AV.int .i64 z)) (wr_succ (by have := h.len_le; omega)), hst⟩
    · skip
      refine ev_exit ?_
      refine thenQ_exit ?_
      refine loopQ_exit ?_
      refine blockQ_exit ?_
      refine thenQ_normal ?_
      refine ev_seq ?_
      refine ev_region rfl ?_
      refine evOps_val rfl (x_move rfl) rfl ?_
      refine evOps_val rfl (x_len' h rfl rfl rfl (e := 41) (by kernel_rfl) rfl) rfl ?_
      refine evOps_val rfl (x_move rfl) rfl ?_
      refine evOps_val rfl (x_bin rfl rfl rfl) rfl ?_
      refine evOps_val rfl (x_assign rfl) rfl ?_
      refine evOps_nil ?_
      refine thenQ_normal ?_
      refine ev_ret ?_
      exact end_ret1 rfl rfl ⟨⟨_, rfl, fun hq => lt_no (a := nn) (b := l.length) (notB_t hq)⟩, hst⟩
  · skip
    refine evOps_unwanted rfl rfl ?_
    refine evOps_unwanted rfl rfl ?_
    refine evOps_unwanted rfl rfl ?_
    refine evOps_val rfl (x_pick rfl rfl) rfl ?_
    refine evOps_nil ?_
    refine thenQ_normal ?_
    refine ev_cond_false rfl ?_
    refine ev_exit ?_
    refine thenQ_exit ?_
    refine loopQ_exit ?_
    refine blockQ_exit ?_
    refine thenQ_normal ?_
    refine ev_seq ?_
    refine ev_region rfl ?_
    refine evOps_val rfl (x_move rfl) rfl ?_
    refine evOps_val rfl (x_len' h rfl rfl rfl (e := 41) (by kernel_rfl) rfl) rfl ?_
    refine evOps_val rfl (x_move rfl) rfl ?_
    refine evOps_val rfl (x_bin rfl rfl rfl) rfl ?_
    refine evOps_val rfl (x_assign rfl) rfl ?_
    refine evOps_nil ?_
    refine thenQ_normal ?_
    refine ev_ret ?_
    exact end_ret1 rfl rfl ⟨⟨_, rfl, fun hq => lt_no (a := nn) (b := l.length) (notB_t hq)⟩, hst⟩
end Go.Ev
end
