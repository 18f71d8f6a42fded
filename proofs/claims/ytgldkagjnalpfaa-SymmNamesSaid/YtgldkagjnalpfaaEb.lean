/- An evaluator of the model's code over heaps whose blocks may lie anywhere, second part: what turns memory, calls, code; and that an answer of the evaluator is the machine's, whatever world the call begins in. -/
import Derived.Test.YtgldkagjnalpfaaEa
import Derived.RangeFuncNested
import Derived.TacticsIn
import Derived.OrdersIn
import Derived.Sort.LoopGhostIn
import Derived.ProofKit
/- The evaluator's operations that turn memory, or call. -/
namespace Go.Ev

inductive HR where
  | val (v : AV) (σ : AHeap)
  | skip (σ : AHeap)
  | enter (f : Nat) (args : List AV) (σ : AHeap)
  | round (l : Pos) (args : List AV) (σ : AHeap)
  | err (n : Nat)

/-- A variable is written. -/
noncomputable def storeA (P : Program) (σ : AHeap) (t : TypeId) (x v : AV) : Option AHeap :=
  match x, cellsA v with
  | .ptr b off, some cs =>
    match σ.m.get b, P.info? t with
    | some (.row cells e false), some j =>
      bif Nat.beq (lenN cs) j.size && Nat.ble (off + j.size) (lenN cells) && allLeaf cs then some (σ.setObj b (.row (splice cs cells off) e false)) else none
    | _, _ => none
  | _, _ => none

/-- The cells of n elements that a slice or a string has. -/
noncomputable def sourceA (σ : AHeap) (sz : Nat) : AV → Option (Nat × List AV)
  | .nilSlice => some (0, [])
  | .slice b off len _ => match σ.m.get b with
    | some (.row cells _ _) => bif Nat.ble (off + len * sz) (lenN cells) then some (len, takeN (dropN cells off) (len * sz)) else none
    | _ => none
  | .str s => bif Nat.beq sz 1 then some (lenN s, mapN (fun c => .int .u8 (Int.ofNat c)) s) else none
  | _ => none

/-- Is the second argument of an append a slice or a string? -/
def sliceOrStr (P : Program) (t : Option TypeId) : Bool :=
  match t with
  | some t => match P.underlying t with
    | some (.slice _) | some .string => true
    | _ => false
  | none => true

noncomputable def grow (σ : AHeap) (e : Nat) (cs : List AV) (len sz : Nat) : HR :=
  .val (.slice σ.next 0 len (.upto sz)) (σ.alloc (.row cs e false))

noncomputable def appendA (P : Program) (σ : AHeap) (ts : Array TypeId) (s x : AV) : HR :=
  match ts[0]? with
  | some t => match P.underlying t with
    | some (.slice e) => match P.info? e with
      | some j =>
        bif sliceOrStr P ts[1]? && Nat.ble 1 j.size && Nat.ble j.bytes 65536 then
          match sourceA σ j.size x with
          | some (n, news) =>
            bif allLeaf news && Nat.ble n 1048576 && (P.info? e).any (fun j => (j.zero.bind ofVal).any fun z => (cellsA z).any fun cs => Nat.beq (lenN cs) j.size) then
              match s with
              | .nilSlice => bif Nat.beq n 0 then .val .nilSlice σ else grow σ e news n j.size
              | .slice b off len (.known c) =>
                bif Nat.ble (len + n) c then
                  match σ.m.get b with
                  | some (.row cells e' false) =>
                    bif Nat.ble (off + len * j.size + lenN news) (lenN cells) then .val (.slice b off (len + n) (.known c)) (σ.setObj b (.row (splice news cells (off + len * j.size)) e' false)) else .err 21
                  | _ => bif Nat.beq n 0 then .val (.slice b off len (.known c)) σ else .err 22
                else match σ.m.get b with
                  | some (.row cells _ _) =>
                    bif Nat.ble (off + len * j.size) (lenN cells) && Nat.ble len 1048576 then grow σ e (appN (takeN (dropN cells off) (len * j.size)) news) (len + n) j.size else .err 23
                  | _ => .err 24
              | .slice b off len (.upto sz) =>
                bif Nat.beq n 0 then .val (.slice b off len (.upto sz)) σ else
                bif Nat.beq sz j.size && Nat.ble len 1048576 then
                  match σ.m.get b with
                  | some (.row cells e' false) =>
                    bif Nat.ble 1 len && Nat.ble (off + len * j.size + lenN news) (lenN cells) then
                      .val (.slice b off (len + n) (.upto sz)) (σ.setObj b (.row (splice news cells (off + len * j.size)) e' false))
                    else bif Nat.ble (off + len * j.size) (lenN cells) && Nat.beq e' e then grow (σ.drop b) e (appN (takeN (dropN cells off) (len * j.size)) news) (len + n) j.size else .err 25
                  | _ => .err 26
                else .err 27
              | _ => .err 28
            else .err 29
          | none => .err 30
        else .err 31
      | none => .err 32
    | _ => .err 33
  | none => .err 34

noncomputable def copyA (P : Program) (σ : AHeap) (ts : Array TypeId) (d x : AV) : HR :=
  match ts[0]? with
  | some t => match P.underlying t with
    | some (.slice e) => match P.info? e with
      | some j => match sourceA σ j.size x, d with
        | some (n, news), .slice b off len _ =>
          bif Nat.beq (Nat.min n len) 0 then .val (.int .i64 0) σ else
          match σ.m.get b with
          | some (.row cells e' false) =>
            bif allLeaf (takeN news (Nat.min n len * j.size)) && Nat.ble 1 j.size && Nat.ble (off + lenN (takeN news (Nat.min n len * j.size))) (lenN cells) then
              .val (.int .i64 (Int.ofNat (Nat.min n len))) (σ.setObj b (.row (splice (takeN news (Nat.min n len * j.size)) cells off) e' false)) else .err 40
          | _ => .err 41
        | some (_, _), .nilSlice => .val (.int .i64 0) σ
        | _, _ => .err 42
      | none => .err 43
    | _ => .err 44
  | none => .err 45

noncomputable def setEnt (e : AEnt) (es : List AEnt) (i : Nat) : List AEnt := setNth e es i
noncomputable def delEnt (es : List AEnt) : Nat → List AEnt :=
  List.rec (motive := fun _ => Nat → List AEnt) (fun _ => []) (fun x l ih n => Nat.rec (motive := fun _ => List AEnt) l (fun m _ => x :: ih m) n) es
noncomputable def beqCells (xs ys : List AV) : Bool :=
  List.rec (motive := fun _ => List AV → Bool) (fun ys => List.rec (motive := fun _ => Bool) true (fun _ _ _ => false) ys)
    (fun x _ ih ys => List.rec (motive := fun _ => Bool) false (fun y r _ => match eqLeaf x y with | some true => ih r | _ => false) ys) xs ys
/-- The very same key. -/
noncomputable def sameKey (x y : AV) : Bool :=
  match x, y with
  | .agg xs, .agg ys => beqCells xs ys
  | x, y => match eqLeaf x y with | some b => b | none => false
noncomputable def updateA (P : Program) (σ : AHeap) (t : TypeId) (m k v : AV) : Option AHeap :=
  match P.underlying t, m with
  | some (.map kt _), .map b => match σ.m.get b with
    | some (.map es clock) => bif plainKey P kt && keyShape P kt k then
        match findA P kt k es 0 with
        | some (some (i, _)) => match nth es i with
          | some e => bif sameKey e.key k then some (σ.setObj b (.map (setEnt { key := k, val := v, born := e.born } es i) clock)) else none
          | none => none
        | some none => some (σ.setObj b (.map (appN es [{ key := k, val := v, born := clock }]) (clock + 1)))
        | none => none
      else none
    | _ => none
  | _, _ => none
noncomputable def deleteA (P : Program) (σ : AHeap) (ts : Array TypeId) (m k : AV) : Option AHeap :=
  match ts[0]? with
  | some t => match P.underlying t, m with
    | some (.map kt _), .map b => match σ.m.get b with
      | some (.map es clock) => bif plainKey P kt && keyShape P kt k then
          match findA P kt k es 0 with
          | some (some (i, _)) => some (σ.setObj b (.map (delEnt es i) clock))
          | some none => some (σ.setObj b (.map es clock))
          | none => none
        else none
      | _ => none
    | _, _ => none
  | none => none

/-- Is it a Go function with a body? -/
def isGo (P : Program) (f : Nat) : Bool :=
  match P.funcs[f]? with
  | some fn => fn.body.isSome && !(fn.name == "runtime.NumGoroutine")
  | none => false

noncomputable def callA (P : Program) (σ : AHeap) (f : AV) (args : List AV) : HR :=
  match f with
  | .func g fi ca => bif isGo P g then .enter g (appN fi (appN args ca)) σ else .err 50
  | .yield l => .round l args σ
  | _ => .err 51

noncomputable def heavyA (P : Program) (ev : Operand → Option AV) (σ : AHeap) : Op → HR
  | .store t x y => match ev x, ev y with
    | some a, some v => match storeA P σ t a v with
      | some σ' => .skip σ'
      | none => .err 10
    | _, _ => .err 11
  | .mapUpdate t m k x => match ev m, ev k, ev x with
    | some a, some b, some v => match updateA P σ t a b v with
      | some σ' => .skip σ'
      | none => .err 19
    | _, _, _ => .err 20
  | .call c => match c.callee with
    | .value f => match ev f, evs ev c.args.toList with
      | some g, some args => callA P σ g args
      | _, _ => .err 12
    | .builtin .append => match evs ev c.args.toList with
      | some [s, x] => appendA P σ c.argTypes s x
      | _ => .err 13
    | .builtin .delete => match evs ev c.args.toList with
      | some [m, k] => match deleteA P σ c.argTypes m k with
        | some σ' => .val (.tuple []) σ'
        | none => .err 17
      | _ => .err 18
    | .builtin .copy => match evs ev c.args.toList with
      | some [s, x] => copyA P σ c.argTypes s x
      | _ => .err 14
    | _ => .err 15
  | _ => .err 16
end Go.Ev

/- What turns memory: stores, appends, copies. -/
namespace Go.Ev
section
variable {P : Program} {ρ : Ren} {σ : AHeap} {w : World}

theorem PT.put_put {α : Type} (o o' : Option α) : ∀ (t : PT α) (p : Pos), (t.put o p).put o' p = t.put o' p
  | .leaf, p => by
    induction p with
    | xH => simp
    | xO p ih => simpa using ih
    | xI p ih => simpa using ih
  | .node l v r, .xH => by simp
  | .node l v r, .xO p => by simpa using PT.put_put o o' l p
  | .node l v r, .xI p => by simpa using PT.put_put o o' r p
theorem AHeap.setObj_setObj (σ : AHeap) (b : Pos) (o o' : AObj) : (σ.setObj b o).setObj b o' = σ.setObj b o' := by
  simp [AHeap.setObj, PT.put_put]
theorem AHeap.get_setObj (σ : AHeap) (b : Pos) (o : AObj) : (σ.setObj b o).m.get b = some o := PT.get_put_same _ _ _

/-- Cells are written one behind the other. -/
theorem storeCells_sound {b : Pos} {l : Loc} {e : Nat} (hl : ρ b = some l) : ∀ (vs : List AV) (xs : List Value) (cells : List AV) (off i : Nat) (σ : AHeap) (w : World), Inv ρ σ w → σ.m.get b = some (.row cells e false) → VRs ρ vs xs → allLeaf vs = true →
    off + i + vs.length ≤ cells.length → ∀ σ₀ : AHeap, σ = σ₀.setObj b (.row cells e false) →
    ∃ w', (storeCells ⟨l.blk, l.sh + off, none⟩ xs i).run P w = .ok () w' ∧ Inv ρ (σ₀.setObj b (.row (setAll cells (off + i) vs) e false)) w' ∧ Stp ρ σ w ρ (σ₀.setObj b (.row (setAll cells (off + i) vs) e false)) w'
  | [], xs, cells, off, i, σ, w, hi, hb, hv, _, _, σ₀, hσ => by
    rw [hv.nil_inv]
    subst hσ
    exact ⟨w, by simp [storeCells], hi, Stp.refl _ _ _⟩
  | v :: vs, xs, cells, off, i, σ, w, hi, hb, hv, hleaf, hlen, σ₀, hσ => by
    obtain ⟨x, r, rfl, h1, h2⟩ := hv.cons_inv
    have hl1 : leafB v = true := allLeaf_eq hleaf v (by simp)
    have hl2 : allLeaf vs = true := by
      have h' : (bif leafB v then allLeaf vs else false) = true := hleaf
      rw [hl1] at h'; exact h'
    simp only [List.length_cons] at hlen
    obtain ⟨hi', st⟩ := hi.setCell hb hl (i := off + i) (by omega) h1
    have hget : (σ.setObj b (.row (cells.set (off + i) v) e false)).m.get b = some (.row (cells.set (off + i) v) e false) := AHeap.get_setObj _ _ _
    obtain ⟨w', r', inv', st'⟩ := storeCells_sound hl vs r (cells.set (off + i) v) off (i + 1) _ _ hi' hget h2 hl2 (by simp; omega) σ₀ (by rw [hσ, AHeap.setObj_setObj])
    obtain ⟨c, fr, hh1, hh2, hh3, hh4, hh5⟩ := hi.row hb hl
    refine ⟨w', ?_, ?_, ?_⟩
    · have hlt : off + i < cells.length := by omega
      obtain ⟨y, hy, _⟩ := hh4 (off + i) cells[off + i] (List.getElem?_eq_getElem hlt)
      have hcell : w.cell? ⟨l.blk, l.sh + off + i, none⟩ = some y := by rw [cell?_of_heap hh1, Nat.add_assoc]; exact hy
      have hfz : w.frozen? ⟨l.blk, l.sh + off + i, none⟩ = false := frozen?_of_heap hh1 _ (hh5 rfl _ (by omega))
      have hadd : (⟨l.blk, l.sh + off, none⟩ : Addr).add i = ⟨l.blk, l.sh + off + i, none⟩ := Addr.add_eq _ i rfl
      have hst : (store ⟨l.blk, l.sh + off + i, none⟩ x).run P w = .ok () (w.setCell ⟨l.blk, l.sh + off + i, none⟩ x) := by
        rw [run_store P w _ x _ (leaf_oneCell hl1 h1), hcell]; simp [hfz]
      simp only [storeCells, Sem.run_bind, hadd, hst, Result.andThen_ok]
      rw [← r', Nat.add_assoc]
    · simpa [setAll, Nat.add_assoc] using inv'
    · have := st.trans st'
      simpa [setAll, Nat.add_assoc] using this

/-- A stretch of cells is written. -/
theorem splice_sound (hi : Inv ρ σ w) {b : Pos} {l : Loc} {e : Nat} {cells vs : List AV} {xs : List Value} {off : Nat} (hl : ρ b = some l) (hb : σ.m.get b = some (.row cells e false)) (hv : VRs ρ vs xs) (hleaf : allLeaf vs = true)
    (hlen : off + vs.length ≤ cells.length) :
    ∃ w', (storeCells ⟨l.blk, l.sh + off, none⟩ xs).run P w = .ok () w' ∧ Inv ρ (σ.setObj b (.row (splice vs cells off) e false)) w' ∧ Stp ρ σ w ρ (σ.setObj b (.row (splice vs cells off) e false)) w' := by
  -- the heap with its own row laid again is, as a function, the heap itself
  have hi2 : Inv ρ (σ.setObj b (.row cells e false)) w ∧ Stp ρ σ w ρ (σ.setObj b (.row cells e false)) w := by
    obtain ⟨c, fr, h1, h2, h3, h4, h5⟩ := hi.row hb hl
    exact hi.change hb hl rfl rfl h1 ⟨c, fr, rfl, h2, h3, h4, h5⟩ (fun _ _ => rfl) rfl rfl rfl rfl
  obtain ⟨w', r, inv, st⟩ := storeCells_sound (P := P) hl vs xs cells off 0 _ w hi2.1 (AHeap.get_setObj _ _ _) hv hleaf (by omega) σ rfl
  rw [Nat.add_zero, ← splice_setAll vs cells off hlen] at inv st
  exact ⟨w', r, inv, hi2.2.trans st⟩

theorem store_sound (hi : Inv ρ σ w) {t : TypeId} {x v : AV} {y z : Value} {σ' : AHeap} (h : storeA P σ t x v = some σ') (hx : VR ρ x y) (hv : VR ρ v z) :
    ∃ w', (Instr.storeAt t y z).run P w = .ok () w' ∧ Inv ρ σ' w' ∧ Stp ρ σ w ρ σ' w' := by
  unfold storeA at h
  split at h
  · rename_i u1 u2 b off cs hcs
    split at h
    · rename_i u3 u4 cells e j hb hj
      simp only [ite_cond] at h
      split at h
      · rename_i hc
        cases h
        simp only [Bool.and_eq_true, Nat.beq_eq, Nat.ble_eq, lenN_eq] at hc
        obtain ⟨⟨hc1, hc2⟩, hc3⟩ := hc
        simp only [VR] at hx
        obtain ⟨l, hl, rfl⟩ := hx
        obtain ⟨w', r, inv, st⟩ := splice_sound (P := P) hi hl hb (cellsA_sound hcs hv) hc3 (off := off) (by omega)
        refine ⟨w', ?_, inv, st⟩
        have hsz := cellsA_size hcs hv
        simp only [Instr.storeAt, Instr.sureAddr, storeVar, Sem.run_bind, Sem.run_pure, Result.andThen_ok, run_sizeOf_of hj]
        rw [if_neg (by simp; omega)]
        exact r
      · cases h
    · cases h
  · cases h

/-- What is appended or copied. -/
theorem source_sound (hi : Inv ρ σ w) {sz n : Nat} {x : AV} {y : Value} {cs : List AV} (h : sourceA σ sz x = some (n, cs)) (hx : VR ρ x y) :
    (Builtin.lenOf y).run P w = .ok n w ∧ cs.length = n * sz ∧
      ∀ k, k ≤ n → ∃ xs : List Value, VRs ρ (cs.take (k * sz)) xs ∧ ∀ w', w'.heap = w.heap → (Builtin.firstCells sz k y).run P w' = .ok xs.toArray w' := by
  unfold sourceA at h
  split at h
  · cases h
    simp only [VR] at hx
    subst hx
    refine ⟨by simp [Builtin.lenOf], by simp, fun k hk => ⟨[], by simpa using VRs.nil, fun w' _ => by simp [Builtin.firstCells]⟩⟩
  · rename_i b off len cap
    split at h
    · rename_i cells e ro hb
      simp only [ite_cond] at h
      split at h
      · rename_i hle
        cases h
        rw [Nat.ble_eq, lenN_eq] at hle
        have full : ∀ (a : Addr) (c : Nat) (l : Loc), ρ b = some l → y = .slice (some a) n c → (a = ⟨l.blk, l.sh + off, none⟩ ∨ n = 0) →
            (Builtin.lenOf y).run P w = .ok n w ∧ (takeN (dropN cells off) (n * sz)).length = n * sz ∧
              ∀ k, k ≤ n → ∃ xs : List Value, VRs ρ ((takeN (dropN cells off) (n * sz)).take (k * sz)) xs ∧ ∀ w', w'.heap = w.heap → (Builtin.firstCells sz k y).run P w' = .ok xs.toArray w' := by
          intro a c l hl hy ha
          subst hy
          refine ⟨by simp [Builtin.lenOf], by rw [takeN_eq, dropN_eq, List.length_take, List.length_drop]; omega, fun k hk => ?_⟩
          have hks : k * sz ≤ n * sz := Nat.mul_le_mul_right _ hk
          rw [takeN_eq, dropN_eq, List.take_take, Nat.min_eq_left hks]
          rcases ha with rfl | rfl
          · obtain ⟨ys, h1, h2, h3⟩ := hi.piece hb hl off (k * sz) (by omega)
            refine ⟨ys, h2, fun w' hw' => ?_⟩
            refine run_firstCells_some w' sz k _ n c ys h1 fun j v hj => ?_
            have := h3 j v hj
            simpa [World.cell?, hw'] using this
          · have hk0 : k = 0 := by omega
            subst hk0
            refine ⟨[], by simpa using VRs.nil, fun w' hw' => ?_⟩
            exact run_firstCells_some w' sz 0 _ 0 c [] (by simp) (by simp)
        cases cap with
        | known c =>
          simp only [VR] at hx
          obtain ⟨l, hl, rfl⟩ := hx
          exact full _ _ l hl rfl (.inl rfl)
        | upto s =>
          simp only [VR] at hx
          obtain ⟨l, hl, ⟨c, rfl, _⟩ | ⟨h0, a, rfl⟩⟩ := hx
          · exact full _ _ l hl rfl (.inl rfl)
          · subst h0; exact full _ _ l hl rfl (.inr rfl)
      · cases h
    · cases h
  · rename_i s
    simp only [ite_cond] at h
    split at h
    · rename_i hs1
      rw [Nat.beq_eq] at hs1
      subst hs1
      cases h
      simp only [VR] at hx
      obtain ⟨bs, rfl, hs⟩ := hx
      rw [strRel_size hs, mapN_eq]
      unfold strRel at hs
      refine ⟨by simp [Builtin.lenOf], by rw [← hs]; simp, fun k hk => ?_⟩
      refine ⟨(bs.data.toList.take k).map fun b => Value.int .u8 b.toNat, ?_, fun w' _ => ?_⟩
      · rw [← hs, List.map_map, ← List.map_take, Nat.mul_one]
        generalize (bs.data.toList.take k) = l
        induction l with
        | nil => exact VRs.nil
        | cons c l ih => exact VRs.cons (by simp only [VR]; rfl) ih
      · simp only [Builtin.firstCells, Sem.run_pure]
        congr 1
        apply Array.toList_inj.1
        simp only [Array.toList_map]
        congr 1
        simp
    · cases h
  · cases h
end
end Go.Ev

/- Appends. -/
namespace Go.Ev
section
variable {P : Program} {ρ : Ren} {σ : AHeap} {w : World}

theorem list_step {α : Type} (l : List α) (k : Nat) (v : α) (vs : List α) (hk : k < l.length) :
    (l.set k v).take (k + 1) ++ vs ++ (l.set k v).drop (k + 1 + vs.length) = l.take k ++ (v :: vs) ++ l.drop (k + (vs.length + 1)) := by
  have h2 : (l.set k v).drop (k + 1 + vs.length) = l.drop (k + (vs.length + 1)) := by
    rw [List.drop_set_of_lt (by omega)]
    congr 1; omega
  have h1 : (l.set k v).take (k + 1) = l.take k ++ [v] := by
    rw [List.take_succ_eq_append_getElem (by simpa using hk)]
    simp [List.take_set_of_le]
  rw [h1, h2]
  simp
theorem run_storeCells_any {g o e : Nat} {fr : Nat × Nat} : ∀ (vs : List Value) (cur : Array Value) (i : Nat) (w : World), w.heap[g]? = some (.cells cur e fr) → o + i + vs.length ≤ cur.size → (∀ v ∈ vs, v.oneCell' = true) →
    (∀ j, o ≤ j → ¬ (fr.1 ≤ j ∧ j < fr.2)) →
    ∃ w', (storeCells ⟨g, o, none⟩ vs i).run P w = .ok () w' ∧ w'.heap[g]? = some (.cells (cur.toList.take (o + i) ++ vs ++ cur.toList.drop (o + i + vs.length)).toArray e fr) ∧
      (∀ r, r ≠ g → w'.heap[r]? = w.heap[r]?) ∧ w'.heap.size = w.heap.size ∧ w'.tape = w.tape ∧ w'.os = w.os ∧ w'.output = w.output
  | [], cur, i, w, hg, _, _, _ => by
    refine ⟨w, by simp [storeCells], ?_, fun _ _ => rfl, rfl, rfl, rfl, rfl⟩
    simpa using hg
  | v :: vs, cur, i, w, hg, hl, h1, hf => by
    simp only [List.length_cons] at hl
    have hlt : o + i < cur.size := by omega
    have hadd : (⟨g, o, none⟩ : Addr).add i = ⟨g, o + i, none⟩ := Addr.add_eq _ i rfl
    have hcell : w.cell? ⟨g, o + i, none⟩ = some cur[o + i] := by rw [cell?_of_heap hg]; simp [hlt]
    have hfz : w.frozen? ⟨g, o + i, none⟩ = false := frozen?_of_heap hg _ (hf _ (by omega))
    have hst : (store ⟨g, o + i, none⟩ v).run P w = .ok () (w.setCell ⟨g, o + i, none⟩ v) := by
      rw [run_store P w _ v _ (h1 v (by simp)), hcell]; simp [hfz]
    obtain ⟨w', r, q1, q2, q3, q4, q5, q6⟩ := run_storeCells_any vs (cur.setIfInBounds (o + i) v) (i + 1) _ (heap_setCell_same hg (o + i) v) (by simp; omega) (fun u hu => h1 u (by simp [hu])) hf
    refine ⟨w', ?_, ?_, fun r hr => (q2 r hr).trans (heap_setCell_other w _ v hr), by rw [q3]; simp, q4, q5, q6⟩
    · simp only [storeCells, Sem.run_bind, hadd, hst, Result.andThen_ok]
      exact r
    · rw [q1]
      congr 3
      rw [Array.toList_setIfInBounds]
      have hcl : cur.toList.length = cur.size := Array.length_toList
      exact list_step cur.toList (o + i) v vs (by omega)

theorem run_append_fits {ts : Array TypeId} {t ty e : TypeId} {j : TypeInfo} (ht : ts[0]? = some t) (hu : P.underlying t = some (.slice e)) (hj : P.info? e = some j) (hz : sliceOrStr P ts[1]? = true)
    {base : Option Addr} {sLen sCap n : Nat} {y : Value} {news : List Value} (hlen : (Builtin.lenOf y).run P w = .ok n w) (hsrc : (Builtin.firstCells j.size n y).run P w = .ok news.toArray w) (hfit : sLen + n ≤ sCap) :
    (Builtin.append_ ts ty #[.slice base sLen sCap, y]).run P w =
      (Sem.run P (match base with | some a => storeCells (a.add (sLen * j.size)) news | none => pure () : Sem Unit) w).andThen fun _ w' => .ok (.slice base (sLen + n) sCap) w' := by
  unfold sliceOrStr at hz
  cases h1 : ts[1]? with
  | none =>
    cases base <;> simp [Builtin.append_, ht, h1, run_underlying hu, run_sizeOf_of hj, hlen, hfit, hsrc]
  | some u =>
    rw [h1] at hz
    dsimp only at hz
    split at hz
    · rename_i e' he'; cases base <;> simp [Builtin.append_, ht, h1, run_underlying hu, run_underlying he', run_sizeOf_of hj, hlen, hfit, hsrc]
    · rename_i he'; cases base <;> simp [Builtin.append_, ht, h1, run_underlying hu, run_underlying he', run_sizeOf_of hj, hlen, hfit, hsrc]
    · cases hz

theorem run_append_at {ts : Array TypeId} {t ty e : TypeId} {j : TypeInfo} (ht : ts[0]? = some t) (hu : P.underlying t = some (.slice e)) (hj : P.info? e = some j) (hz : sliceOrStr P ts[1]? = true)
    {blk o : Nat} {sLen sCap n : Nat} {y : Value} {news : List Value} (hlen : (Builtin.lenOf y).run P w = .ok n w) (hsrc : (Builtin.firstCells j.size n y).run P w = .ok news.toArray w) (hfit : sLen + n ≤ sCap) :
    (Builtin.append_ ts ty #[.slice (some ⟨blk, o, none⟩) sLen sCap, y]).run P w =
      (Sem.run P (storeCells ⟨blk, o + sLen * j.size, none⟩ news) w).andThen fun _ w' => .ok (.slice (some ⟨blk, o, none⟩) (sLen + n) sCap) w' := by
  rw [run_append_fits ht hu hj hz hlen hsrc hfit]
  show (Sem.run P (storeCells ((⟨blk, o, none⟩ : Addr).add (sLen * j.size)) news) w).andThen _ = _
  rw [Addr.add_eq _ _ rfl]

theorem run_append_more {ts : Array TypeId} {t ty e : TypeId} {j : TypeInfo} {z : Value} (ht : ts[0]? = some t) (hu : P.underlying t = some (.slice e)) (hj : P.info? e = some j) (hzero : j.zero = some z) (hz : sliceOrStr P ts[1]? = true)
    {base : Option Addr} {sLen sCap n : Nat} {y : Value} {olds news : List Value} (hlen : (Builtin.lenOf y).run P w = .ok n w) (hsrc : (Builtin.firstCells j.size n y).run P w.drew = .ok news.toArray w.drew)
    (hold : (Builtin.firstCells j.size sLen (.slice base sLen sCap)).run P w.drew = .ok olds.toArray w.drew) (hmore : sCap < sLen + n) (h63 : sLen + n ≤ 4194304) (hby : j.bytes ≤ 65536) (hby0 : 1 ≤ j.size) :
    ∃ cap, sLen + n ≤ cap ∧ (Builtin.append_ ts ty #[.slice base sLen sCap, y]).run P w =
      .ok (.slice (some ⟨w.heap.size, 0, none⟩) (sLen + n) cap) (w.drew.alloc (.cells (olds.toArray ++ news.toArray ++ Builtin.zeroCells z.cells (cap - (sLen + n))) e)) := by
  refine ⟨grownCap w (sLen + n) sCap e, grownCap_ge _ _ _ _, ?_⟩
  have hfit : Builtin.nextslicecap (sLen + n) sCap * j.bytes ≤ 281474976710656 := growslice_fits hmore (by
    have : (sLen + n) * j.bytes ≤ 4194304 * 65536 := Nat.mul_le_mul h63 hby
    omega)
  have hn : ¬ (sLen + n ≤ sCap) := by omega
  have hmax : IntKind.i64.max = 9223372036854775807 := by decide
  have h1 : ¬ (9223372036854775807 < ((sLen : Int) + (n : Int))) := by omega
  have h48 : ¬ (281474976710656 < Builtin.nextslicecap (sLen + n) sCap * j.bytes) := by omega
  rw [Array.append_assoc]
  unfold sliceOrStr at hz
  cases h1' : ts[1]? with
  | none =>
    simp [Builtin.append_, ht, h1', run_underlying hu, run_sizeOf_of hj, typeInfo, hj, hlen, hn, hmax, h1, h48, hold, hsrc, zeroValue, hzero, newRow, Question.forced, grownCap]
  | some u =>
    rw [h1'] at hz
    dsimp only at hz
    split at hz
    · rename_i e' he'
      simp [Builtin.append_, ht, h1', run_underlying hu, run_underlying he', run_sizeOf_of hj, typeInfo, hj, hlen, hn, hmax, h1, h48, hold, hsrc, zeroValue, hzero, newRow, Question.forced, grownCap]
    · rename_i he'
      simp [Builtin.append_, ht, h1', run_underlying hu, run_underlying he', run_sizeOf_of hj, typeInfo, hj, hlen, hn, hmax, h1, h48, hold, hsrc, zeroValue, hzero, newRow, Question.forced, grownCap]
    · cases hz

/-- The new row, and the slice that leads to it. -/
theorem grow_sound (hi : Inv ρ σ w) {cs : List AV} {olds news : List Value} {e sz len cap : Nat} {z : Value} (hc : VRs ρ cs (olds ++ news)) (hlen : cs.length = len * sz) (hcap : len ≤ cap) (hz : z.cells.size = sz) :
    Inv (ρ.with σ.next ⟨w.heap.size, 0, cap * sz⟩) (σ.alloc (.row cs e false)) (w.drew.alloc (.cells (olds.toArray ++ news.toArray ++ Builtin.zeroCells z.cells (cap - len)) e)) ∧
    Stp ρ σ w (ρ.with σ.next ⟨w.heap.size, 0, cap * sz⟩) (σ.alloc (.row cs e false)) (w.drew.alloc (.cells (olds.toArray ++ news.toArray ++ Builtin.zeroCells z.cells (cap - len)) e)) ∧
    VR (ρ.with σ.next ⟨w.heap.size, 0, cap * sz⟩) (.slice σ.next 0 len (.upto sz)) (.slice (some ⟨w.heap.size, 0, none⟩) len cap) := by
  have hlen2 := hc.length
  rw [hlen] at hlen2
  have hle : len * sz ≤ cap * sz := Nat.mul_le_mul_right _ hcap
  have ho : ObjR ρ ⟨w.heap.size, 0, cap * sz⟩ (.row cs e false) (.cells (olds.toArray ++ news.toArray ++ Builtin.zeroCells z.cells (cap - len)) e) := by
    refine ⟨_, _, rfl, ?_, by rw [hlen]; exact hle, fun i v hv => ?_, fun _ j _ hj => by simp at hj⟩
    · have h1 : olds.length + news.length = len * sz := by simpa using hlen2
      simp only [Array.size_append, List.size_toArray, size_zeroCells, hz, Nat.sub_mul, Nat.zero_add]
      omega
    · obtain ⟨y, h1, h2⟩ := hc.get hv
      refine ⟨y, ?_, h2⟩
      have hlt : i < (olds ++ news).length := (List.getElem?_eq_some_iff.1 h1).1
      rw [Nat.zero_add, Array.getElem?_append_left (by simpa using hlt)]
      simpa using h1
  obtain ⟨inv, st⟩ := (hi.drew).alloc (l := ⟨w.heap.size, 0, cap * sz⟩) rfl ho
  refine ⟨inv, (Stp.drew ρ σ w).trans st, ?_⟩
  simp only [VR]
  exact ⟨_, Ren.with_same _ _ _, .inl ⟨cap, rfl, hcap, by simp⟩⟩

theorem append_sound (hi : Inv ρ σ w) {ts : Array TypeId} {ty : TypeId} {s x v : AV} {ys yx : Value} {σ' : AHeap} (h : appendA P σ ts s x = .val v σ') (hs : VR ρ s ys) (hx : VR ρ x yx) :
    ∃ z w' ρ', (Builtin.append_ ts ty #[ys, yx]).run P w = .ok z w' ∧ VR ρ' v z ∧ Inv ρ' σ' w' ∧ Stp ρ σ w ρ' σ' w' := by
  unfold appendA at h
  cases ht : ts[0]? with
  | none => rw [ht] at h; cases h
  | some t =>
  rw [ht] at h
  dsimp only at h
  split at h
  case h_2 => cases h
  rename_i e hu
  cases hj : P.info? e with
  | none => rw [hj] at h; cases h
  | some j =>
  rw [hj] at h
  simp only [ite_cond] at h
  split at h
  case isFalse => cases h
  rename_i hb
  simp only [Bool.and_eq_true, Nat.ble_eq] at hb
  obtain ⟨⟨hz, hsz⟩, hby⟩ := hb
  cases hsrc : sourceA σ j.size x with
  | none => rw [hsrc] at h; cases h
  | some p =>
  obtain ⟨n, news⟩ := p
  rw [hsrc] at h
  dsimp only at h
  split at h
  case isFalse => cases h
  rename_i hb2
  simp only [Bool.and_eq_true, Nat.ble_eq] at hb2
  obtain ⟨⟨hleaf, hn20⟩, hzero⟩ := hb2
  obtain ⟨zv, hzv, hzcells⟩ : ∃ zv, j.zero = some zv ∧ zv.cells.size = j.size := by
    simp only [Option.any_some, Option.any_eq_true] at hzero
    obtain ⟨z, hz1, cs, hz2, hz3⟩ := hzero
    cases hzz : j.zero with
    | none => rw [hzz] at hz1; cases hz1
    | some zv =>
      rw [hzz] at hz1
      refine ⟨zv, rfl, ?_⟩
      rw [Nat.beq_eq, lenN_eq] at hz3
      rw [← hz3]
      exact cellsA_size hz2 (ofVal_sound (ρ := ρ) hz1)
  obtain ⟨hlenOf, hnlen, hfirst⟩ := source_sound (P := P) hi hsrc hx
  obtain ⟨xs, hxs, hrunx⟩ := hfirst n (Nat.le_refl _)
  rw [← hnlen, List.take_length] at hxs
  have hxlen : xs.length = n * j.size := by rw [hxs.length, hnlen]
  have hrun0 := hrunx w rfl
  have hrund := hrunx w.drew rfl
  split at h
  · -- nil
    simp only [VR] at hs
    subst hs
    split at h
    · rename_i hn0
      rw [Nat.beq_eq] at hn0
      cases h
      subst hn0
      refine ⟨.slice none 0 0, w, ρ, ?_, by simp only [VR], hi, Stp.refl _ _ _⟩
      have := run_append_fits (w := w) (ty := ty) (base := none) (sLen := 0) (sCap := 0) ht hu hj hz hlenOf hrun0 (Nat.le_refl _)
      rw [this]; rfl
    · rename_i hn0
      cases h
      have hn : 0 < n := by
        rcases Nat.eq_zero_or_pos n with h0 | h0
        · exact absurd (by rw [Nat.beq_eq]; exact h0) hn0
        · exact h0
      obtain ⟨cap, hcap, hr⟩ := run_append_more (w := w) (ty := ty) (base := none) (sLen := 0) (sCap := 0) (olds := []) ht hu hj hzv hz hlenOf hrund (by simp [Builtin.firstCells]) (by omega) (by omega) hby hsz
      rw [Nat.zero_add] at hcap hr
      obtain ⟨inv, st, hv⟩ := grow_sound (e := e) hi (olds := []) (news := xs) (by simpa using hxs) hnlen hcap hzcells
      exact ⟨_, _, _, hr, hv, inv, st⟩
  · -- a known capacity
    rename_i b off len c
    simp only [VR] at hs
    obtain ⟨l, hl, rfl⟩ := hs
    split at h
    · rename_i hfit
      rw [Nat.ble_eq] at hfit
      have hr := run_append_at (w := w) (ty := ty) (blk := l.blk) (o := l.sh + off) ht hu hj hz hlenOf hrun0 hfit
      split at h
      · rename_i cells e' hb
        split at h
        · rename_i hroom
          rw [Nat.ble_eq, lenN_eq, lenN_eq] at hroom
          cases h
          obtain ⟨w', r, inv, st⟩ := splice_sound (P := P) hi hl hb hxs hleaf (off := off + len * j.size) (by omega)
          refine ⟨.slice (some ⟨l.blk, l.sh + off, none⟩) (len + n) c, w', ρ, ?_, ?_, inv, st⟩
          · rw [hr, Nat.add_assoc, r]; rfl
          · simp only [VR]; exact ⟨l, hl, rfl⟩
        · cases h
      · split at h
        · rename_i hn0
          rw [Nat.beq_eq] at hn0
          cases h
          subst hn0
          refine ⟨.slice (some ⟨l.blk, l.sh + off, none⟩) len c, w, ρ, ?_, ?_, hi, Stp.refl _ _ _⟩
          · have hx0 : xs = [] := List.eq_nil_of_length_eq_zero (by rw [hxlen, Nat.zero_mul])
            rw [hr, hx0]; simp [storeCells]
          · simp only [VR]; exact ⟨l, hl, rfl⟩
        · cases h
    · rename_i hfit
      rw [Nat.ble_eq] at hfit
      split at h
      · rename_i cells e' ro hb
        split at h
        · rename_i hroom
          simp only [Bool.and_eq_true, Nat.ble_eq, lenN_eq] at hroom
          obtain ⟨hroom, hlen20⟩ := hroom
          unfold grow at h
          cases h
          obtain ⟨ys, h1, h2, h3⟩ := hi.piece hb hl off (len * j.size) hroom
          have hold : (Builtin.firstCells j.size len (.slice (some ⟨l.blk, l.sh + off, none⟩) len c)).run P w.drew = .ok ys.toArray w.drew :=
            run_firstCells_some w.drew j.size len _ len c ys h1 (fun i v hv => by simpa using h3 i v hv)
          obtain ⟨cap, hcap, hr⟩ := run_append_more (w := w) (ty := ty) ht hu hj hzv hz hlenOf hrund hold (by omega) (by omega) hby hsz
          obtain ⟨inv, st, hv⟩ := grow_sound (e := e) hi (olds := ys) (news := xs) (len := len + n) (cs := appN (takeN (dropN cells off) (len * j.size)) news)
            (by rw [appN_eq, takeN_eq, dropN_eq]; exact h2.append hxs) (by rw [appN_eq, takeN_eq, dropN_eq, List.length_append, List.length_take, List.length_drop, hnlen, Nat.add_mul]; omega) hcap hzcells
          exact ⟨_, _, _, hr, hv, inv, st⟩
        · cases h
      · cases h
  · -- to the row's end
    rename_i b off len sz
    split at h
    · rename_i hn0
      rw [Nat.beq_eq] at hn0
      cases h
      subst hn0
      have hx0 : xs = [] := List.eq_nil_of_length_eq_zero (by rw [hxlen, Nat.zero_mul])
      subst hx0
      have hs' := hs
      simp only [VR] at hs'
      obtain ⟨l, hl, ⟨c, hy, hc, _⟩ | ⟨h0, a, hy⟩⟩ := hs'
      · refine ⟨ys, w, ρ, ?_, hs, hi, Stp.refl _ _ _⟩
        rw [hy, run_append_fits (w := w) (ty := ty) ht hu hj hz hlenOf hrun0 (by omega)]; simp [storeCells]
      · refine ⟨ys, w, ρ, ?_, hs, hi, Stp.refl _ _ _⟩
        subst h0
        rw [hy, run_append_fits (w := w) (ty := ty) ht hu hj hz hlenOf hrun0 (by omega)]; simp [storeCells]
    · rename_i hn0
      have hn : 0 < n := by
        rcases Nat.eq_zero_or_pos n with h0 | h0
        · exact absurd (by rw [Nat.beq_eq]; exact h0) hn0
        · exact h0
      split at h
      · rename_i hszz
        simp only [Bool.and_eq_true, Nat.beq_eq, Nat.ble_eq] at hszz
        obtain ⟨hszz, hlen20⟩ := hszz
        subst hszz
        simp only [VR] at hs
        split at h
        · rename_i cells e' hb
          split at h
          · -- within what is known
            rename_i hroom
            simp only [Bool.and_eq_true, Nat.ble_eq, lenN_eq] at hroom
            obtain ⟨hl1, hroom⟩ := hroom
            cases h
            obtain ⟨l, hl, ⟨c, rfl, hc, hcells⟩ | ⟨h0, _⟩⟩ := hs
            · obtain ⟨cc, fr, _, _, hh3, _⟩ := hi.row hb hl
              have hfit : len + n ≤ c := by
                have : (len + n) * j.size ≤ c * j.size := by rw [Nat.add_mul]; omega
                exact Nat.le_of_mul_le_mul_right this hsz
              have hr := run_append_at (w := w) (ty := ty) (blk := l.blk) (o := l.sh + off) ht hu hj hz hlenOf hrun0 hfit
              obtain ⟨w', r, inv, st⟩ := splice_sound (P := P) hi hl hb hxs hleaf (off := off + len * j.size) (by omega)
              refine ⟨.slice (some ⟨l.blk, l.sh + off, none⟩) (len + n) c, w', ρ, ?_, ?_, inv, st⟩
              · rw [hr, Nat.add_assoc, r]; rfl
              · simp only [VR]; exact ⟨l, hl, .inl ⟨c, rfl, hfit, hcells⟩⟩
            · omega
          · split at h
            · -- there is room, or there is none: the row's number is forgotten
              rename_i hroom
              simp only [Bool.and_eq_true, Nat.ble_eq, Nat.beq_eq, lenN_eq] at hroom
              obtain ⟨hroom, he⟩ := hroom
              subst he
              unfold grow at h
              cases h
              obtain ⟨l, hl, hcase⟩ := hs
              obtain ⟨olds, h1, h2, h3⟩ := hi.piece hb hl off (len * j.size) hroom
              have hcs : VRs ρ (appN (takeN (dropN cells off) (len * j.size)) news) (olds ++ xs) := by rw [appN_eq, takeN_eq, dropN_eq]; exact h2.append hxs
              have hcl : (appN (takeN (dropN cells off) (len * j.size)) news).length = (len + n) * j.size := by
                rw [appN_eq, takeN_eq, dropN_eq, List.length_append, List.length_take, List.length_drop, hnlen, Nat.add_mul]; omega
              -- the row is made anew
              have anew : ∀ (a : Addr) (c : Nat), ys = .slice (some a) len c → c < len + n → (a = ⟨l.blk, l.sh + off, none⟩ ∨ len = 0) →
                  ∃ z w' ρ', (Builtin.append_ ts ty #[ys, yx]).run P w = .ok z w' ∧ VR ρ' (.slice (σ.drop b).next 0 (len + n) (.upto j.size)) z ∧
                    Inv ρ' ((σ.drop b).alloc (.row (appN (takeN (dropN cells off) (len * j.size)) news) e' false)) w' ∧ Stp ρ σ w ρ' ((σ.drop b).alloc (.row (appN (takeN (dropN cells off) (len * j.size)) news) e' false)) w' := by
                intro a c hy hlt ha
                subst hy
                have hold : (Builtin.firstCells j.size len (.slice (some a) len c)).run P w.drew = .ok olds.toArray w.drew := by
                  rcases ha with rfl | rfl
                  · exact run_firstCells_some w.drew j.size len _ len c olds h1 (fun i v hv => by simpa using h3 i v hv)
                  · have : olds = [] := List.eq_nil_of_length_eq_zero (by rw [h1, Nat.zero_mul])
                    subst this
                    exact run_firstCells_some w.drew j.size 0 _ 0 c [] (by simp) (by simp)
                obtain ⟨cap, hcap, hr⟩ := run_append_more (w := w) (ty := ty) ht hu hj hzv hz hlenOf hrund hold (by omega) (by omega) hby hsz
                obtain ⟨hi', st'⟩ := hi.forget b
                obtain ⟨inv, st, hv⟩ := grow_sound (e := e') hi' (olds := olds) (news := xs) (len := len + n) hcs hcl hcap hzcells
                exact ⟨_, _, _, hr, hv, inv, st'.trans st⟩
              rcases hcase with ⟨c, hy, hc, hcells⟩ | ⟨h0, a, hy⟩
              · by_cases hfit : len + n ≤ c
                · -- written into the spare room
                  subst hy
                  have hr := run_append_at (w := w) (ty := ty) (blk := l.blk) (o := l.sh + off) ht hu hj hz hlenOf hrun0 hfit
                  obtain ⟨cc, fr, hh1, hh2, hh3, hh4, hh5⟩ := hi.row hb hl
                  have hmul : (len + n) * j.size ≤ c * j.size := Nat.mul_le_mul_right _ hfit
                  have hmul' : (len + n) * j.size = len * j.size + n * j.size := Nat.add_mul _ _ _
                  -- what the writing does to the row
                  have hst := run_storeCells_any (P := P) (o := l.sh + off + len * j.size) xs cc 0 w hh1 (by rw [hxlen, hh2]; omega) (fun u hu => by
                    obtain ⟨i, hi1, hi2⟩ := List.getElem_of_mem hu
                    have hil : i < news.length := by rw [← hxs.length]; exact hi1
                    obtain ⟨y, hy1, hy2⟩ := hxs.get (List.getElem?_eq_getElem hil)
                    rw [List.getElem?_eq_getElem hi1, hi2] at hy1
                    cases hy1
                    exact leaf_oneCell (allLeaf_eq hleaf _ (List.getElem_mem hil)) hy2) (fun jj hjj => hh5 rfl jj (by omega))
                  obtain ⟨w', r, hw1, hw2, hw3, hw4, hw5, hw6⟩ := hst
                  have inv := hi.regrow (l' := ⟨l.blk, l.sh + off, l.cells - off⟩) (cells' := appN (takeN (dropN cells off) (len * j.size)) news) hb hl rfl hw1
                    ⟨_, fr, rfl, by simp [hh2]; omega, by rw [hcl]; show _ ≤ l.cells - off; omega, fun i v hv => by
                      obtain ⟨y, hy1, hy2⟩ := hcs.get hv
                      refine ⟨y, ?_, hy2⟩
                      rw [List.getElem?_toArray]
                      dsimp only
                      have hccl : cc.toList.length = l.sh + l.cells := by rw [Array.length_toList, hh2]
                      have hil : i < (olds ++ xs).length := (List.getElem?_eq_some_iff.1 hy1).1
                      rw [List.length_append, h1, hxlen] at hil
                      by_cases hio : i < len * j.size
                      · rw [List.getElem?_append_left (by rw [h1]; exact hio)] at hy1
                        have := h3 i y hy1
                        rw [Addr.add_eq _ _ rfl, cell?_of_heap hh1] at this
                        rw [List.append_assoc, List.getElem?_append_left (by rw [List.length_take, hccl]; omega), List.getElem?_take, if_pos (by omega), Array.getElem?_toList]
                        exact this
                      · rw [List.getElem?_append_right (by rw [h1]; omega), h1] at hy1
                        rw [List.append_assoc, List.getElem?_append_right (by rw [List.length_take, hccl]; omega), List.length_take, hccl]
                        rw [List.getElem?_append_left (by rw [hxlen]; omega), ← hy1]
                        congr 1
                        omega, fun _ jj hjj => hh5 rfl jj (by simp only at hjj; omega)⟩
                    hw2 hw3 hw4 hw5 hw6
                  refine ⟨.slice (some ⟨l.blk, l.sh + off, none⟩) (len + n) c, w', _, ?_, ?_, inv.1, inv.2⟩
                  · rw [hr, r]; rfl
                  · simp only [VR, AHeap.drop]
                    refine ⟨_, Ren.with_same _ _ _, .inl ⟨c, by simp, hfit, ?_⟩⟩
                    simp only; omega
                · exact anew _ c hy (by omega) (.inl rfl)
              · exact anew a 0 (by rw [hy, h0]) (by omega) (.inr h0)
            · cases h
        · cases h
      · cases h
  · cases h
end
end Go.Ev

/- Copies; calls. -/
namespace Go.Ev
section
variable {P : Program} {ρ : Ren} {σ : AHeap} {w : World}

theorem allLeaf_of : ∀ {l : List AV}, (∀ v ∈ l, leafB v = true) → allLeaf l = true
  | [], _ => rfl
  | x :: l, h => by
    show (bif leafB x then allLeaf l else false) = true
    rw [h x (by simp), allLeaf_of fun v hv => h v (by simp [hv])]; rfl

theorem copy_sound (hi : Inv ρ σ w) {ts : Array TypeId} {ty : TypeId} {s x v : AV} {ys yx : Value} {σ' : AHeap} (h : copyA P σ ts s x = .val v σ') (hs : VR ρ s ys) (hx : VR ρ x yx) :
    ∃ z w' ρ', (Builtin.copy_ ts ty #[ys, yx]).run P w = .ok z w' ∧ VR ρ' v z ∧ Inv ρ' σ' w' ∧ Stp ρ σ w ρ' σ' w' := by
  unfold copyA at h
  cases ht : ts[0]? with
  | none => rw [ht] at h; cases h
  | some t =>
  rw [ht] at h
  dsimp only at h
  split at h
  case h_2 => cases h
  rename_i e hu
  cases hj : P.info? e with
  | none => rw [hj] at h; cases h
  | some j =>
  rw [hj] at h
  dsimp only at h
  split at h
  · rename_i n news b off len cap hsrc
    obtain ⟨hlenOf, hnlen, hfirst⟩ := source_sound (P := P) hi hsrc hx
    obtain ⟨xs, hxs, hrunx⟩ := hfirst (Nat.min n len) (Nat.min_le_left _ _)
    simp only [ite_cond] at h
    split at h
    · rename_i h0
      rw [Nat.beq_eq] at h0
      cases h
      rw [h0, Nat.zero_mul] at hxs
      rw [h0] at hrunx
      have hx0 : xs = [] := by have := hxs.length; simpa using this
      subst hx0
      obtain ⟨a, c, rfl⟩ := VR.slice_inv hs
      have hr := hrunx w rfl
      refine ⟨.int .i64 0, w, ρ, ?_, by simp only [VR], hi, Stp.refl _ _ _⟩
      simp [Builtin.copy_, ht, run_underlying hu, hlenOf, run_sizeOf_of hj, h0, hr, goInt, storeCells]
    · rename_i h0
      rw [Nat.beq_eq] at h0
      split at h
      · rename_i cells e' hb
        split at h
        · rename_i hc
          simp only [Bool.and_eq_true, Nat.ble_eq, lenN_eq] at hc
          obtain ⟨⟨hleaf, hsz⟩, hroom⟩ := hc
          cases h
          rw [takeN_eq] at hroom hleaf
          have go : ∀ (l : Loc) (c : Nat), ρ b = some l → ys = .slice (some ⟨l.blk, l.sh + off, none⟩) len c →
              ∃ z w' ρ', (Builtin.copy_ ts ty #[ys, yx]).run P w = .ok z w' ∧ VR ρ' (.int .i64 (Int.ofNat (Nat.min n len))) z ∧
                Inv ρ' (σ.setObj b (.row (splice (takeN news (Nat.min n len * j.size)) cells off) e' false)) w' ∧ Stp ρ σ w ρ' (σ.setObj b (.row (splice (takeN news (Nat.min n len * j.size)) cells off) e' false)) w' := by
            intro l c hl hy
            rw [takeN_eq]
            obtain ⟨w', r, inv, st⟩ := splice_sound (P := P) hi hl hb hxs hleaf (off := off) hroom
            refine ⟨.int .i64 (Int.ofNat (Nat.min n len)), w', ρ, ?_, by simp only [VR], inv, st⟩
            subst hy
            have hr := hrunx w rfl
            simp [Builtin.copy_, ht, run_underlying hu, hlenOf, run_sizeOf_of hj, hr, r, goInt]
          cases cap with
          | known c =>
            simp only [VR] at hs
            obtain ⟨l, hl, hy⟩ := hs
            exact go l c hl hy
          | upto sz =>
            simp only [VR] at hs
            obtain ⟨l, hl, ⟨c, hy, _⟩ | ⟨h0', a, hy⟩⟩ := hs
            · exact go l c hl hy
            · subst h0'
              exact absurd (Nat.min_zero n) h0
        · cases h
      · cases h
  · rename_i n news hsrc
    cases h
    obtain ⟨hlenOf, hnlen, hfirst⟩ := source_sound (P := P) hi hsrc hx
    obtain ⟨xs, hxs, hrunx⟩ := hfirst 0 (Nat.zero_le _)
    simp only [VR] at hs
    subst hs
    refine ⟨.int .i64 0, w, ρ, ?_, by simp only [VR], hi, Stp.refl _ _ _⟩
    have hr := hrunx w rfl
    simp [Builtin.copy_, ht, run_underlying hu, hlenOf, run_sizeOf_of hj, hr, goInt]
  · cases h

theorem isGo_sound {g : Nat} {args : Array Value} (h : isGo P g = true) : (callFunc g args).run P w = .ok (.enter g args) w := by
  unfold isGo at h
  cases hf : P.funcs[g]? with
  | none => rw [hf] at h; cases h
  | some fn =>
    rw [hf] at h
    simp only [Bool.and_eq_true, Bool.not_eq_true'] at h
    obtain ⟨h1, h2⟩ := h
    have h3 : fn.body.isNone = false := by cases hb : fn.body <;> simp_all
    have h2' : ¬ fn.name = "runtime.NumGoroutine" := by simpa using h2
    have h3' : ¬ fn.body = none := by intro e; rw [e] at h3; cases h3
    simp [callFunc, hf, h2', h3']

/-- What an operation that turns memory, or calls, comes to. -/
inductive HOut (P : Program) (ρ : Ren) (σ : AHeap) (w : World) : HR → Result Next → Prop
  | val {v : AV} {σ' : AHeap} {x : Value} {w' : World} {ρ' : Ren} (hv : VR ρ' v x) (hi : Inv ρ' σ' w') (st : Stp ρ σ w ρ' σ' w') : HOut P ρ σ w (.val v σ') (.ok (.value x) w')
  | skip {σ' : AHeap} {w' : World} {ρ' : Ren} (hi : Inv ρ' σ' w') (st : Stp ρ σ w ρ' σ' w') : HOut P ρ σ w (.skip σ') (.ok .skip w')
  | enter {f : Nat} {args : List AV} {xs : Array Value} (hv : VRs ρ args xs.toList) : HOut P ρ σ w (.enter f args σ) (.ok (.enter f xs) w)
  | round {l : Pos} {args : List AV} {xs : Array Value} {loc : Loc} {r : Result Next} (hv : VRs ρ args xs.toList) (hl : ρ l = some loc) (hr : r = (Instr.yield loc.blk xs).run P w) : HOut P ρ σ w (.round l args σ) r

theorem call_out {g : AV} {args : List AV} {y : Value} {xs : Array Value} {r : HR} (h : callA P σ g args = r) (hne : ∀ n, r ≠ .err n) (hg : VR ρ g y) (hx : VRs ρ args xs.toList) :
    HOut P ρ σ w r ((do let d ← Deferred.ofValue y xs; invoke d.target d.args : Sem Next).run P w) := by
  subst h
  unfold callA at hne ⊢
  cases g with
  | func f fi ca =>
    dsimp only at hne ⊢
    cases hgo : isGo P f with
    | false => rw [hgo] at hne; exact absurd rfl (hne 50)
    | true =>
      rw [hgo] at hne
      simp only [VR] at hg
      obtain ⟨fi', ca', rfl, hfi, hca⟩ := hg
      simp only [cond_true]
      have : (do let d ← Deferred.ofValue (.func (.func f) fi' ca') xs; invoke d.target d.args : Sem Next).run P w = .ok (.enter f (fi' ++ xs ++ ca')) w := by
        simp [Deferred.ofValue, invoke, isGo_sound hgo]
      rw [this, appN_eq, appN_eq]
      exact .enter (by simpa using hfi.append (hx.append hca))
  | yield l =>
    dsimp only at hne ⊢
    simp only [VR] at hg
    obtain ⟨loc, hl, rfl⟩ := hg
    exact .round hx hl (by simp [Deferred.ofValue, invoke])
  | _ => exact absurd rfl (hne 51)
end
end Go.Ev

/- Maps; the theorem of what reads memory. -/
namespace Go.Ev
section
variable {P : Program} {ρ : Ren} {σ : AHeap} {w : World}

def plainD : TypeDesc → Bool
  | .int _ | .string | .bool => true
  | _ => false

theorem plainKey_cases {t : TypeId} (h : plainKey P t = true) : (∃ d, P.underlying t = some d ∧ plainD d = true) ∨ ∃ fs, P.underlying t = some (.struct fs) ∧ ∀ f ∈ fs.toList, ∃ d, P.underlying f.type = some d ∧ plainD d = true := by
  unfold plainKey at h
  split at h
  · rename_i k hu; exact .inl ⟨_, hu, rfl⟩
  · rename_i hu; exact .inl ⟨_, hu, rfl⟩
  · rename_i hu; exact .inl ⟨_, hu, rfl⟩
  · rename_i fs hu
    refine .inr ⟨fs, hu, fun f hf => ?_⟩
    rw [List.all_eq_true] at h
    have := h f hf
    split at this
    · rename_i k hu'; exact ⟨_, hu', rfl⟩
    · rename_i hu'; exact ⟨_, hu', rfl⟩
    · rename_i hu'; exact ⟨_, hu', rfl⟩
    · cases this
  · cases h

theorem checkKey_plain {t : TypeId} {d : TypeDesc} (hu : P.underlying t = some d) (hd : plainD d = true) (em : Bool) (n : Nat) (a : Value) : (Instr.checkKey em (n + 1) t a).run P w = .ok () w := by
  simp only [Instr.checkKey, Sem.run_bind, run_underlying hu, Result.andThen_ok]
  cases d <;> first | (simp [plainD] at hd; done) | rfl

theorem checkKey_sound {t : TypeId} {k : AV} {a : Value} (hp : plainKey P t = true) (hs : keyShape P t k = true) (hk : VR ρ k a) (em : Bool) : (Instr.checkKey em 10000 t a).run P w = .ok () w := by
  rcases plainKey_cases hp with ⟨d, hu, hd⟩ | ⟨fs, hu, hfs⟩
  · exact checkKey_plain hu hd em 9999 a
  · unfold keyShape at hs
    rw [hu] at hs
    cases k <;> (try (simp at hs; done))
    rename_i xs
    dsimp only at hs
    simp only [VR] at hk
    obtain ⟨ys, rfl, hys⟩ := hk
    show (Instr.checkKey em (9998 + 1 + 1) t (.agg ys)).run P w = .ok () w
    generalize 9998 = n
    rw [Instr.checkKey]
    simp only [Sem.run_bind, run_underlying hu, Result.andThen_ok]
    rw [← Array.forIn_toList]
    rw [List.all_eq_true] at hs
    clear hu
    generalize fs.toList = l at *
    induction l with
    | nil => simp
    | cons f l ih =>
      have hf := hs f (by simp)
      obtain ⟨d, hu', hd'⟩ := hfs f (by simp)
      obtain ⟨v, hv⟩ := Option.isSome_iff_exists.1 hf
      rw [nth_eq] at hv
      obtain ⟨y, hy, _⟩ := hys.get hv
      have hy' : ys[f.offset]? = some y := by rw [← Array.getElem?_toList]; exact hy
      have hag : aggD d = false := by cases d <;> first | rfl | (simp [plainD] at hd')
      have hpart : (part f.type ys f.offset).run P w = .ok y w := by
        simp only [part, Sem.run_bind, run_isAgg_of hu', hag, Result.andThen_ok, Bool.false_eq_true, if_false, hy', Sem.run_pure]
      have ih' := ih (fun g hg => hfs g (by simp [hg])) (fun g hg => hs g (by simp [hg]))
      simp only [List.forIn_cons, Sem.run_bind, Sem.run_ite]
      split
      · simp only [hpart, Result.andThen_ok, checkKey_plain hu' hd', Sem.run_pure]
        exact ih'
      · simp only [Sem.run_pure, Result.andThen_ok]
        exact ih'

theorem keyEq_now {t : TypeId} {d : TypeDesc} (hu : P.underlying t = some d) (hd : plainD d = true) {x y : AV} {a c : Value} {b : Bool} (h : keyEq P t x y = some b) (hx : VR ρ x a) (hy : VR ρ y c) : Instr.sameNow d a c = some b := by
  unfold keyEq at h
  rw [hu] at h
  split at h
  · rename_i u1 u2 u3 q j m k n e
    cases e
    cases hk : eqK j k with
    | false => rw [hk] at h; cases h
    | true =>
      rw [hk] at h
      have := eqK_eq hk
      subst this
      simp only [VR] at hx hy
      subst hx; subst hy
      simp only [cond_true, Option.some.injEq] at h
      rw [← h, eqI_eq]
      simp only [Instr.sameNow, if_true, Option.some.injEq]
      by_cases e : m = n <;> simp [e]
  · rename_i u1 u2 u3 s s' e
    cases e
    simp only [VR] at hx hy
    obtain ⟨p, rfl, hp⟩ := hx
    obtain ⟨q, rfl, hq⟩ := hy
    cases h
    simp only [Instr.sameNow, Option.some.injEq]
    rw [strRel_eq hp hq, beq_toListBytes]
  · rename_i u1 u2 u3 s s' e
    cases e
    simp only [VR] at hx hy
    subst hx; subst hy
    cases h
    simp only [Instr.sameNow, Option.some.injEq, cond_beq]
  · rename_i u1 u2 u3 fs xs ys e
    cases e
    simp [plainD] at hd
  · cases h

theorem keyEq_asks {t : TypeId} {fs : Array Field} (hu : P.underlying t = some (.struct fs)) {x y : AV} {a c : Value} {b : Bool} (h : keyEq P t x y = some b) (hx : VR ρ x a) (hy : VR ρ y c) : (Op.equal t a c).run P w = .ok b w := by
  unfold keyEq at h
  rw [hu] at h
  split at h
  · rename_i e; cases e
  · rename_i e; cases e
  · rename_i e; cases e
  · exact (equal_sound (P := P) (w := w) h hx hy .eql (.const .nilFunc) (.const .nilFunc)).2
  · cases h

/-- How what is found stands for what is found. -/
def FoundR (ρ : Ren) : Option (Nat × AV) → Option (Nat × Value) → Prop
  | none, none => True
  | some (i, v), some (j, y) => i = j ∧ VR ρ v y
  | _, _ => False

theorem findNow_sound {t : TypeId} {d : TypeDesc} (hu : P.underlying t = some d) (hd : plainD d = true) {k : AV} {a : Value} (hk : VR ρ k a) : ∀ (es : List AEnt) (ys : List MapEntry) (i : Nat) (r : Option (Nat × AV)), EntR ρ es ys → findA P t k es i = some r →
    ∃ r', Instr.findNow d a ys i = some r' ∧ FoundR ρ r r'
  | [], ys, i, r, he, h => by
    have : ys = [] := he
    subst this
    have h' : some none = some r := h
    cases h'
    exact ⟨none, rfl, trivial⟩
  | e :: es, ys, i, r, he, h => by
    obtain ⟨y, rest, rfl, h1, h2, h3, h4⟩ := he
    have h' : (match keyEq P t k e.key with
      | some true => some (some (i, e.val))
      | some false => findA P t k es (Nat.succ i)
      | none => none) = some r := h
    cases hq : keyEq P t k e.key with
    | none => rw [hq] at h'; cases h'
    | some b =>
      rw [hq] at h'
      have hs := keyEq_now hu hd hq hk h1
      cases b with
      | true => cases h'; exact ⟨some (i, y.val), by simp [Instr.findNow, hs], rfl, h2⟩
      | false =>
        obtain ⟨r', g1, g2⟩ := findNow_sound hu hd hk es rest (i + 1) r h4 h'
        exact ⟨r', by simp [Instr.findNow, hs, g1], g2⟩

theorem findAsk_sound {t : TypeId} {fs : Array Field} (hu : P.underlying t = some (.struct fs)) {k : AV} {a : Value} (hk : VR ρ k a) : ∀ (es : List AEnt) (ys : List MapEntry) (i : Nat) (r : Option (Nat × AV)), EntR ρ es ys → findA P t k es i = some r →
    ∃ r', (Instr.findAsking t a ys i).run P w = .ok r' w ∧ FoundR ρ r r'
  | [], ys, i, r, he, h => by
    have : ys = [] := he
    subst this
    have h' : some none = some r := h
    cases h'
    exact ⟨none, rfl, trivial⟩
  | e :: es, ys, i, r, he, h => by
    obtain ⟨y, rest, rfl, h1, h2, h3, h4⟩ := he
    have h' : (match keyEq P t k e.key with
      | some true => some (some (i, e.val))
      | some false => findA P t k es (Nat.succ i)
      | none => none) = some r := h
    cases hq : keyEq P t k e.key with
    | none => rw [hq] at h'; cases h'
    | some b =>
      rw [hq] at h'
      have hs := keyEq_asks (w := w) hu hq hk h1
      cases b with
      | true => cases h'; exact ⟨some (i, y.val), by simp [Instr.findAsking, hs], rfl, h2⟩
      | false =>
        obtain ⟨r', g1, g2⟩ := findAsk_sound hu hk es rest (i + 1) r h4 h'
        exact ⟨r', by simp [Instr.findAsking, hs, g1], g2⟩

theorem find_sound {t : TypeId} (hp : plainKey P t = true) {k : AV} {a : Value} (hk : VR ρ k a) {es : List AEnt} {ys : List MapEntry} {r : Option (Nat × AV)} (he : EntR ρ es ys) (h : findA P t k es 0 = some r) :
    ∃ r', (Instr.findKey t a ys).run P w = .ok r' w ∧ FoundR ρ r r' := by
  rcases plainKey_cases hp with ⟨d, hu, hd⟩ | ⟨fs, hu, hfs⟩
  · obtain ⟨r', h1, h2⟩ := findNow_sound hu hd hk es ys 0 r he h
    exact ⟨r', by simp [Instr.findKey, run_underlying hu, h1], h2⟩
  · cases hn : Instr.findNow (.struct fs) a ys 0 with
    | none =>
      obtain ⟨r', h1, h2⟩ := findAsk_sound (w := w) hu hk es ys 0 r he h
      exact ⟨r', by simp [Instr.findKey, run_underlying hu, hn, h1], h2⟩
    | some r0 =>
      cases es with
      | nil =>
        have : ys = [] := he
        subst this
        have h' : some none = some r := h
        cases h'
        exact ⟨none, by simp [Instr.findKey, run_underlying hu, Instr.findNow], trivial⟩
      | cons e es =>
        obtain ⟨y, rest, rfl, h1, _⟩ := he
        have : Instr.sameNow (.struct fs) a y.key = none := by simp [Instr.sameNow]
        simp [Instr.findNow, this] at hn

theorem EntR.length : ∀ {es : List AEnt} {ys : List MapEntry}, EntR ρ es ys → ys.length = es.length
  | [], ys, h => by have : ys = [] := h; rw [this]; rfl
  | e :: es, ys, h => by obtain ⟨y, r, rfl, _, _, _, h4⟩ := h; simp [h4.length]
theorem EntR.get : ∀ {es : List AEnt} {ys : List MapEntry}, EntR ρ es ys → ∀ {i : Nat} {e : AEnt}, es[i]? = some e → ∃ y, ys[i]? = some y ∧ VR ρ e.key y.key ∧ VR ρ e.val y.val ∧ y.born = e.born
  | [], ys, h, i, e, he => by simp at he
  | e :: es, ys, h, 0, e', he => by
    obtain ⟨y, r, rfl, h1, h2, h3, h4⟩ := h
    simp at he; subst he
    exact ⟨y, rfl, h1, h2, h3⟩
  | e :: es, ys, h, i + 1, e', he => by
    obtain ⟨y, r, rfl, h1, h2, h3, h4⟩ := h
    simp at he
    simpa using h4.get he
theorem EntR.append : ∀ {es fs : List AEnt} {ys zs : List MapEntry}, EntR ρ es ys → EntR ρ fs zs → EntR ρ (es ++ fs) (ys ++ zs)
  | [], fs, ys, zs, h, h' => by have : ys = [] := h; subst this; exact h'
  | e :: es, fs, ys, zs, h, h' => by
    obtain ⟨y, r, rfl, h1, h2, h3, h4⟩ := h
    exact ⟨y, r ++ zs, rfl, h1, h2, h3, h4.append h'⟩
theorem EntR.set : ∀ {es : List AEnt} {ys : List MapEntry}, EntR ρ es ys → ∀ (i : Nat) {e : AEnt} {y : MapEntry}, VR ρ e.key y.key → VR ρ e.val y.val → y.born = e.born → EntR ρ (es.set i e) (ys.set i y)
  | [], ys, h, i, _, _, _, _, _ => by have : ys = [] := h; subst this; simp [EntR]
  | e :: es, ys, h, 0, _, _, k1, k2, k3 => by
    obtain ⟨y, r, rfl, h1, h2, h3, h4⟩ := h
    exact ⟨_, r, rfl, k1, k2, k3, h4⟩
  | e :: es, ys, h, i + 1, _, _, k1, k2, k3 => by
    obtain ⟨y, r, rfl, h1, h2, h3, h4⟩ := h
    exact ⟨y, _, rfl, h1, h2, h3, h4.set i k1 k2 k3⟩
theorem EntR.erase : ∀ {es : List AEnt} {ys : List MapEntry}, EntR ρ es ys → ∀ (i : Nat), EntR ρ (es.eraseIdx i) (ys.eraseIdx i)
  | [], ys, h, i => by have : ys = [] := h; subst this; simp [EntR]
  | e :: es, ys, h, 0 => by obtain ⟨y, r, rfl, h1, h2, h3, h4⟩ := h; exact h4
  | e :: es, ys, h, i + 1 => by
    obtain ⟨y, r, rfl, h1, h2, h3, h4⟩ := h
    exact ⟨y, _, rfl, h1, h2, h3, h4.erase i⟩

theorem Inv.mapObj (hi : Inv ρ σ w) {b : Pos} {l : Loc} {es : List AEnt} {clock : Nat} (ho : σ.m.get b = some (.map es clock)) (hl : ρ b = some l) : ∃ es', w.heap[l.blk]? = some (.map es' clock) ∧ EntR ρ es es'.toList := by
  obtain ⟨x, hx, es', rfl, h2⟩ := hi.obj b _ l ho hl
  exact ⟨es', hx, h2⟩
theorem run_getObj_map {r clock : Nat} {es : Array MapEntry} (h : w.heap[r]? = some (.map es clock)) : (getObj r).run P w = .ok (.map es clock) w := by
  simp [getObj, Sem.run, h]

theorem lookup_sound (hi : Inv ρ σ w) {ev : Operand → Option AV} {f : Operand → Value} {t : TypeId} {x i : Operand} {ok : Bool} {v : AV} (hx : ∀ u, ev x = some u → VR ρ u (f x)) (hk : ∀ u, ev i = some u → VR ρ u (f i))
    (h : readA P ev σ (.lookup t x i ok) = some v) : ∃ z, (Instr.lookup t (f x) (f i) ok).run P w = .ok z w ∧ VR ρ v z := by
  simp only [readA] at h
  split at h
  · rename_i kt et k hu hik
    simp only [ite_cond] at h
    split at h
    · rename_i hpk
      rw [Bool.and_eq_true] at hpk
      obtain ⟨hp, hsh⟩ := hpk
      have hkv := hk _ hik
      -- the entries
      have main : ∀ (es : List AEnt) (ys : Array MapEntry), EntR ρ es ys.toList →
          (match findA P kt k es 0, zeroA P et with
            | some (some (_, v)), some _ => some (if ok = true then AV.tuple [v, .bool true] else v)
            | some none, some z => some (if ok = true then AV.tuple [z, .bool false] else z)
            | _, _ => none) = some v →
          (Instr.checkKey ys.isEmpty 10000 kt (f i)).run P w = .ok () w ∧ ∃ r', (Instr.findKey kt (f i) ys.toList).run P w = .ok r' w ∧
            ((∃ j y, r' = some (j, y) ∧ VR ρ v (if ok = true then .tuple #[y, .bool true] else y)) ∨
              (r' = none ∧ ∃ xz, (zeroValue et).run P w = .ok xz w ∧ VR ρ v (if ok = true then .tuple #[xz, .bool false] else xz))) := by
        intro es ys he hh
        have hck := checkKey_sound (w := w) hp hsh hkv ys.isEmpty
        cases hf : findA P kt k es 0 with
        | none => rw [hf] at hh; cases hh
        | some r =>
          obtain ⟨r', g1, g2⟩ := find_sound (w := w) hp hkv he hf
          cases hz : zeroA P et with
          | none => rw [hf, hz] at hh; cases r <;> cases hh
          | some zz =>
            rw [hf, hz] at hh
            obtain ⟨iz, xz, hiz, hzero, hzv⟩ := zeroA_sound hz
            cases r with
            | some p =>
              obtain ⟨j, u⟩ := p
              cases r' with
              | none => exact g2.elim
              | some q =>
                obtain ⟨j', y⟩ := q
                obtain ⟨_, hy⟩ := g2
                refine ⟨hck, _, g1, .inl ⟨j', y, rfl, ?_⟩⟩
                cases hh
                cases ok with
                | true =>
                  simp only [if_true, VR]
                  exact ⟨_, rfl, VRs.cons hy (VRs.cons (by simp only [VR]) VRs.nil)⟩
                | false => simpa using hy
            | none =>
              cases r' with
              | some q => exact g2.elim
              | none =>
                have hzr : (zeroValue et).run P w = .ok xz w := by simp [zeroValue, typeInfo, hiz, hzero]
                refine ⟨hck, _, g1, .inr ⟨rfl, xz, hzr, ?_⟩⟩
                cases hh
                cases ok with
                | true =>
                  simp only [if_true, VR]
                  exact ⟨_, rfl, VRs.cons (hzv ρ) (VRs.cons (by simp only [VR]) VRs.nil)⟩
                | false => simpa using hzv ρ
      cases hxv : ev x with
      | none => rw [hxv] at h; cases h
      | some m =>
        rw [hxv] at h
        have hmv := hx m hxv
        cases m with
        | nilMap =>
          simp only [VR] at hmv
          dsimp only at h
          obtain ⟨hck, r', g1, hr⟩ := main [] #[] (by simp [EntR]) h
          rcases hr with ⟨j, y, rfl, hr⟩ | ⟨rfl, xz, hz, hr⟩
          · exact ⟨_, by rw [hmv]; simp only [Instr.lookup, Sem.run_bind, run_underlying hu, Result.andThen_ok, Sem.run_pure, hck, g1], hr⟩
          · exact ⟨_, by rw [hmv]; simp only [Instr.lookup, Sem.run_bind, run_underlying hu, Result.andThen_ok, Sem.run_pure, hck, g1, hz], hr⟩
        | map b =>
          simp only [VR] at hmv
          obtain ⟨l, hl, hf⟩ := hmv
          dsimp only at h
          cases hb : σ.m.get b with
          | none => rw [hb] at h; cases h
          | some ob =>
            rw [hb] at h
            cases ob with
            | map es clock =>
              dsimp only at h
              obtain ⟨ys, hh, he⟩ := hi.mapObj hb hl
              obtain ⟨hck, r', g1, hr⟩ := main es ys he h
              rcases hr with ⟨j, y, rfl, hr⟩ | ⟨rfl, xz, hz, hr⟩
              · exact ⟨_, by rw [hf]; simp only [Instr.lookup, Sem.run_bind, run_underlying hu, Result.andThen_ok, Sem.run_pure, run_getObj_map hh, hck, g1], hr⟩
              · exact ⟨_, by rw [hf]; simp only [Instr.lookup, Sem.run_bind, run_underlying hu, Result.andThen_ok, Sem.run_pure, run_getObj_map hh, hck, g1, hz], hr⟩
            | _ => cases h
        | _ => cases h
    · cases h
  · cases h

theorem read_sound (hi : Inv ρ σ w) {ev : Operand → Option AV} {f : Operand → Value} {o : Oper} {v : AV} (hE : ER ρ ev f o.op) (h : readA P ev σ o.op = some v) :
    ∃ x, (execOp f o).run P w = .ok (.value x) w ∧ VR ρ v x := by
  cases ho : o.op with
  | load t x =>
    rw [ho] at h hE
    simp only [readA] at h
    cases hx : ev x with
    | none => rw [hx] at h; cases h
    | some u =>
      rw [hx] at h
      have hvx := hE x (by simp [Op.operands]) u hx
      cases u with
      | ptr b off =>
        simp only at h
        cases hg : σ.m.get b with
        | none => rw [hg] at h; cases h
        | some ob =>
          rw [hg] at h
          cases ob with
          | row cells e ro =>
            simp only [VR] at hvx
            obtain ⟨l, hl, hfx⟩ := hvx
            obtain ⟨y, hy, hr⟩ := loadVar_sound (P := P) hi hg hl h
            refine ⟨y, ?_, hr⟩
            simp [execOp, ho, Instr.loadAt, hfx, Instr.sureAddr, hy]
          | _ => cases h
      | _ => cases h
  | lookup t x i ok =>
    rw [ho] at h hE
    obtain ⟨z, h1, h2⟩ := lookup_sound (P := P) hi (f := f) (hE x (by simp [Op.operands])) (hE i (by simp [Op.operands])) h
    exact ⟨z, by simp only [execOp, ho, Sem.run_bind, h1, Result.andThen_ok, Sem.run_pure], h2⟩
  | call c =>
    rw [ho] at h hE
    simp only [readA] at h
    split at h
    · rename_i hcal
      split at h
      · rename_i u1 u2 t x e1 e2
        have hargs : c.args = #[x] := by rw [← Array.toList_inj]; exact e2
        split at h
        · rename_i u3 u4 kt et b hu hx
          have hv := hE x (by simp [Op.operands, Call.operands, hcal, hargs]) _ hx
          simp only [VR] at hv
          obtain ⟨l, hl, hf⟩ := hv
          split at h
          · rename_i es clock hb
            cases h
            obtain ⟨ys, hh, he⟩ := hi.mapObj hb hl
            refine ⟨.int .i64 (Int.ofNat (lenN es)), ?_, by simp only [VR]⟩
            have hlen : ys.size = es.length := by have := he.length; simpa using this
            simp [execOp, ho, resolve, hcal, hargs, invoke, builtin, Builtin.len_, e1, run_underlying hu, hf, run_getObj_map hh, goInt, lenN_eq, hlen]
          · cases h
        · rename_i u3 u4 kt et hu hx
          cases h
          have hv := hE x (by simp [Op.operands, Call.operands, hcal, hargs]) _ hx
          simp only [VR] at hv
          refine ⟨.int .i64 0, ?_, by simp only [VR]⟩
          simp [execOp, ho, resolve, hcal, hargs, invoke, builtin, Builtin.len_, e1, run_underlying hu, hv, goInt]
        · cases h
      · cases h
    · cases h
  | _ => rw [ho] at h; simp [readA] at h
end
end Go.Ev

/- Maps are written; the theorem of what turns memory or calls. -/
namespace Go.Ev
section
variable {P : Program} {ρ : Ren} {σ : AHeap} {w : World}

theorem eqLeaf_same {x y : AV} {a c : Value} (h : eqLeaf x y = some true) (hx : VR ρ x a) (hy : VR ρ y c) (n : Nat) : Instr.sameBits n a c = true := by
  unfold eqLeaf at h
  split at h
  · simp only [VR] at hx hy
    subst hx; subst hy
    simp only [Option.some.injEq, cond_beq] at h
    simp only [Instr.sameBits, h]
  · rename_i j a' k b'
    simp only [ite_cond] at h
    split at h
    · rename_i hk
      have := eqK_eq hk
      subst this
      simp only [Option.some.injEq, eqI_eq, decide_eq_true_eq] at h
      subst h
      simp only [VR] at hx hy
      subst hx; subst hy
      simp [Instr.sameBits]
    · cases h
  · simp only [VR] at hx hy
    obtain ⟨p, rfl, hp⟩ := hx
    obtain ⟨q, rfl, hq⟩ := hy
    simp only [Option.some.injEq] at h
    rw [strRel_eq hp hq] at h
    have e : p.toList = q.toList := by simpa using h
    simp only [Instr.sameBits, beq_toListBytes]
    simpa using e
  · cases h

theorem beqCells_same : ∀ {xs ys : List AV} {as cs : List Value}, beqCells xs ys = true → VRs ρ xs as → VRs ρ ys cs → ∀ n, as.length = cs.length ∧ ((as.zip cs).all fun (x, y) => Instr.sameBits n x y) = true
  | [], [], as, cs, _, hx, hy, n => by rw [hx.nil_inv, hy.nil_inv]; simp
  | [], y :: ys, as, cs, h, hx, hy, n => by cases h
  | x :: xs, [], as, cs, h, hx, hy, n => by cases h
  | x :: xs, y :: ys, as, cs, h, hx, hy, n => by
    obtain ⟨a, as', rfl, h1, h2⟩ := hx.cons_inv
    obtain ⟨c, cs', rfl, h3, h4⟩ := hy.cons_inv
    have h' : (match eqLeaf x y with | some true => beqCells xs ys | _ => false) = true := h
    split at h'
    · rename_i he
      obtain ⟨g1, g2⟩ := beqCells_same h' h2 h4 n
      refine ⟨by simp [g1], ?_⟩
      simp only [List.zip_cons_cons, List.all_cons, Bool.and_eq_true]
      exact ⟨eqLeaf_same he h1 h3 n, g2⟩
    · cases h'

theorem sameKey_same {x y : AV} {a c : Value} (h : sameKey x y = true) (hx : VR ρ x a) (hy : VR ρ y c) (n : Nat) : Instr.sameBits (n + 1) a c = true := by
  unfold sameKey at h
  split at h
  · simp only [VR] at hx hy
    obtain ⟨as, rfl, hx⟩ := hx
    obtain ⟨cs, rfl, hy⟩ := hy
    obtain ⟨g1, g2⟩ := beqCells_same h hx hy n
    simp only [Instr.sameBits, Bool.and_eq_true, beq_iff_eq]
    exact ⟨by simpa using g1, g2⟩
  · split at h
    · rename_i b hb
      subst h
      exact eqLeaf_same hb hx hy _
    · cases h

theorem setEnt_eq (e : AEnt) (es : List AEnt) (i : Nat) : setEnt e es i = es.set i e := setNth_eq _ _ _
theorem delEnt_eq : ∀ (es : List AEnt) (i : Nat), delEnt es i = es.eraseIdx i
  | [], i => rfl
  | e :: es, 0 => rfl
  | e :: es, i + 1 => congrArg (e :: ·) (delEnt_eq es i)

theorem Inv.setMap (hi : Inv ρ σ w) {b : Pos} {l : Loc} {es es' : List AEnt} {clock clock' : Nat} {ys : Array MapEntry} (hb : σ.m.get b = some (.map es clock)) (hl : ρ b = some l) (he : EntR ρ es' ys.toList) :
    ∃ w', (setObj l.blk (.map ys clock')).run P w = .ok () w' ∧ Inv ρ (σ.setObj b (.map es' clock')) w' ∧ Stp ρ σ w ρ (σ.setObj b (.map es' clock')) w' := by
  obtain ⟨zs, hh, _⟩ := hi.mapObj hb hl
  refine ⟨{ w with heap := w.heap.setIfInBounds l.blk (.map ys clock') }, by simp [setObj, Sem.run, hh], ?_⟩
  have hlt := hi.blk b l hl
  exact hi.change hb hl rfl rfl (x := .map ys clock') (by simp [Array.getElem?_setIfInBounds, hlt]) ⟨ys, rfl, he⟩
    (fun r hr => by simp [Array.getElem?_setIfInBounds, Ne.symm hr]) (by simp) rfl rfl rfl

theorem update_sound (hi : Inv ρ σ w) {t : TypeId} {m k v : AV} {ym yk yv : Value} {σ' : AHeap} (h : updateA P σ t m k v = some σ') (hm : VR ρ m ym) (hk : VR ρ k yk) (hv : VR ρ v yv) :
    ∃ w', (Instr.mapUpdate t ym yk yv).run P w = .ok () w' ∧ Inv ρ σ' w' ∧ Stp ρ σ w ρ σ' w' := by
  unfold updateA at h
  split at h
  · rename_i u1 u2 kt et b hu
    split at h
    · rename_i es clock hb
      simp only [ite_cond] at h
      split at h
      · rename_i hpk
        rw [Bool.and_eq_true] at hpk
        obtain ⟨hp, hsh⟩ := hpk
        simp only [VR] at hm
        obtain ⟨l, hl, rfl⟩ := hm
        obtain ⟨ys, hh, he⟩ := hi.mapObj hb hl
        have hck := checkKey_sound (w := w) hp hsh hk false
        split at h
        · rename_i i u hf
          obtain ⟨r', g1, g2⟩ := find_sound (w := w) hp hk he hf
          cases r' with
          | none => exact g2.elim
          | some q =>
          obtain ⟨j, y⟩ := q
          obtain ⟨rfl, hy⟩ := g2
          rw [nth_eq] at h
          split at h
          · rename_i e hn
            split at h
            · rename_i hs
              cases h
              obtain ⟨ye, hye, e1, e2, e3⟩ := he.get hn
              have hsb := sameKey_same hs e1 hk 9999
              have hye' : ys[i]? = some ye := by rw [← Array.getElem?_toList]; exact hye
              have hkts : (Instr.keyThatStays (((ys[i]?).map (·.key)).getD yk) yk).run P w = .ok yk w := by
                simp [Instr.keyThatStays, hye', hsb]
              have hmod : (ys.modify i fun e => { e with key := yk, val := yv }).toList = ys.toList.set i { key := yk, val := yv, born := e.born } := by
                apply List.ext_getElem?
                intro q
                rw [Array.getElem?_toList, Array.getElem?_modify, List.getElem?_set]
                have hlt : i < ys.toList.length := (List.getElem?_eq_some_iff.1 hye).1
                by_cases eq : i = q
                · subst eq; simp [hye', e3]; simpa using hlt
                · simp [eq]
              obtain ⟨w', r, inv, st⟩ := hi.setMap (P := P) (clock' := clock) (es' := setEnt { key := k, val := v, born := e.born } es i) (ys := ys.modify i fun e => { e with key := yk, val := yv }) hb hl (by
                rw [hmod, setEnt_eq]; exact he.set i hk hv rfl)
              refine ⟨w', ?_, inv, st⟩
              simp only [Instr.mapUpdate, Sem.run_bind, run_underlying hu, Result.andThen_ok, run_getObj_map hh, hck, g1, hkts, r]
            · cases h
          · cases h
        · rename_i hf
          cases h
          obtain ⟨r', g1, g2⟩ := find_sound (w := w) hp hk he hf
          cases r' with
          | some q => exact g2.elim
          | none =>
          obtain ⟨w', r, inv, st⟩ := hi.setMap (P := P) (clock' := clock + 1) (es' := appN es [{ key := k, val := v, born := clock }]) (ys := ys.push { key := yk, val := yv, born := clock }) hb hl (by
            rw [appN_eq, Array.toList_push]; exact he.append ⟨_, [], rfl, hk, hv, rfl, rfl⟩)
          refine ⟨w', ?_, inv, st⟩
          simp only [Instr.mapUpdate, Sem.run_bind, run_underlying hu, Result.andThen_ok, run_getObj_map hh, hck, g1, r]
        · cases h
      · cases h
    · cases h
  · cases h

theorem delete_sound (hi : Inv ρ σ w) {ts : Array TypeId} {ty : TypeId} {m k : AV} {ym yk : Value} {σ' : AHeap} (h : deleteA P σ ts m k = some σ') (hm : VR ρ m ym) (hk : VR ρ k yk) :
    ∃ w', (Builtin.delete_ ts ty #[ym, yk]).run P w = .ok (.tuple #[]) w' ∧ Inv ρ σ' w' ∧ Stp ρ σ w ρ σ' w' := by
  unfold deleteA at h
  split at h
  · rename_i t ht
    split at h
    · rename_i u1 u2 kt et b hu
      split at h
      · rename_i es clock hb
        simp only [ite_cond] at h
        split at h
        · rename_i hpk
          rw [Bool.and_eq_true] at hpk
          obtain ⟨hp, hsh⟩ := hpk
          simp only [VR] at hm
          obtain ⟨l, hl, rfl⟩ := hm
          obtain ⟨ys, hh, he⟩ := hi.mapObj hb hl
          have hck := checkKey_sound (w := w) hp hsh hk ys.isEmpty
          split at h
          · rename_i i u hf
            cases h
            obtain ⟨r', g1, g2⟩ := find_sound (w := w) hp hk he hf
            cases r' with
            | none => exact g2.elim
            | some q =>
            obtain ⟨j, y⟩ := q
            obtain ⟨rfl, hy⟩ := g2
            obtain ⟨w', r, inv, st⟩ := hi.setMap (P := P) (clock' := clock) (es' := delEnt es i) (ys := ys.eraseIdxIfInBounds i) hb hl (by
              rw [Array.toList_eraseIdxIfInBounds, delEnt_eq]; exact he.erase i)
            refine ⟨w', ?_, inv, st⟩
            simp only [Builtin.delete_, ht, List.getElem?_toArray, List.getElem?_cons_zero, List.getElem?_cons_succ, Sem.run_bind, run_underlying hu, Result.andThen_ok, run_getObj_map hh, hck, g1, r, Sem.run_pure]
          · rename_i hf
            cases h
            obtain ⟨r', g1, g2⟩ := find_sound (w := w) hp hk he hf
            cases r' with
            | some q => exact g2.elim
            | none =>
            obtain ⟨w', r, inv, st⟩ := hi.setMap (P := P) (clock' := clock) (es' := es) (ys := ys) hb hl he
            refine ⟨w', ?_, inv, st⟩
            simp only [Builtin.delete_, ht, List.getElem?_toArray, List.getElem?_cons_zero, List.getElem?_cons_succ, Sem.run_bind, run_underlying hu, Result.andThen_ok, run_getObj_map hh, hck, g1, r, Sem.run_pure]
          · cases h
        · cases h
      · cases h
    · cases h
  · cases h

def HR.isVal : HR → Prop
  | .val .. => True
  | .err _ => True
  | _ => False
theorem append_val (P : Program) (σ : AHeap) (ts : Array TypeId) (s x : AV) : (appendA P σ ts s x).isVal := by
  unfold appendA
  simp only [ite_cond, grow]
  repeat' (first | trivial | split)
theorem copy_val (P : Program) (σ : AHeap) (ts : Array TypeId) (s x : AV) : (copyA P σ ts s x).isVal := by
  unfold copyA
  simp only [ite_cond]
  repeat' (first | trivial | split)

theorem heavy_sound (hi : Inv ρ σ w) {ev : Operand → Option AV} {f : Operand → Value} {o : Oper} {r : HR} (hE : ER ρ ev f o.op) (h : heavyA P ev σ o.op = r) (hne : ∀ n, r ≠ .err n) :
    HOut P ρ σ w r ((execOp f o).run P w) := by
  cases ho : o.op with
  | store t x y =>
    rw [ho] at h hE
    simp only [heavyA] at h
    cases hx : ev x with
    | none => rw [hx] at h; exact absurd h.symm (hne 11)
    | some a =>
    cases hy : ev y with
    | none => rw [hx, hy] at h; exact absurd h.symm (hne 11)
    | some v =>
    rw [hx, hy] at h
    dsimp only at h
    cases hs : storeA P σ t a v with
    | none => rw [hs] at h; exact absurd h.symm (hne 10)
    | some σ' =>
      rw [hs] at h
      subst h
      obtain ⟨w', r, inv, st⟩ := store_sound (P := P) hi hs (hE x (by simp [Op.operands]) a hx) (hE y (by simp [Op.operands]) v hy)
      have : (execOp f o).run P w = .ok .skip w' := by simp only [execOp, ho, Sem.run_bind, r, Result.andThen_ok, Sem.run_pure]
      rw [this]
      exact .skip inv st
  | mapUpdate t m k x =>
    rw [ho] at h hE
    simp only [heavyA] at h
    cases hm : ev m with
    | none => rw [hm] at h; exact absurd h.symm (hne 20)
    | some a =>
    cases hk : ev k with
    | none => rw [hm, hk] at h; exact absurd h.symm (hne 20)
    | some b =>
    cases hx : ev x with
    | none => rw [hm, hk, hx] at h; exact absurd h.symm (hne 20)
    | some v =>
    rw [hm, hk, hx] at h
    dsimp only at h
    cases hs : updateA P σ t a b v with
    | none => rw [hs] at h; exact absurd h.symm (hne 19)
    | some σ' =>
      rw [hs] at h
      subst h
      obtain ⟨w', r, inv, st⟩ := update_sound (P := P) hi hs (hE m (by simp [Op.operands]) a hm) (hE k (by simp [Op.operands]) b hk) (hE x (by simp [Op.operands]) v hx)
      have : (execOp f o).run P w = .ok .skip w' := by simp only [execOp, ho, Sem.run_bind, r, Result.andThen_ok, Sem.run_pure]
      rw [this]
      exact .skip inv st
  | call c =>
    rw [ho] at h hE
    simp only [heavyA] at h
    split at h
    · rename_i g hcal
      split at h
      · rename_i u1 u2 y args hg ha
        have hE' : ∀ x ∈ c.args.toList, ∀ v, ev x = some v → VR ρ v (f x) := fun x hx => hE x (by simp [Op.operands, Call.operands, hcal]; right; simpa using hx)
        have := call_out (P := P) (w := w) h hne (hE g (by simp [Op.operands, Call.operands, hcal]) y hg) (xs := c.args.map f) (by simpa using evs_sound ha hE')
        simpa only [execOp, ho, resolve, hcal] using this
      · exact absurd h.symm (hne 12)
    · rename_i hcal
      split at h
      · rename_i u1 s x ha
        subst h
        have hE' : ∀ x ∈ c.args.toList, ∀ v, ev x = some v → VR ρ v (f x) := fun x hx => hE x (by simp [Op.operands, Call.operands, hcal]; simpa using hx)
        obtain ⟨ys, rs, e, h1, h2⟩ := (evs_sound ha hE').cons_inv
        obtain ⟨yx, rs', rfl, h3, h4⟩ := h2.cons_inv
        have := h4.nil_inv
        subst this
        have hargs : c.args.map f = #[ys, yx] := by rw [← Array.toList_inj]; simpa using e
        have hv := append_val P σ c.argTypes s x
        cases hr : appendA P σ c.argTypes s x with
        | val v σ' =>
          obtain ⟨z, w', ρ', g1, g2, g3, g4⟩ := append_sound (P := P) (ty := o.type) hi hr h1 h3
          have : (execOp f o).run P w = .ok (.value z) w' := by
            simp only [execOp, ho, resolve, hcal, hargs, Sem.run_bind, Sem.run_pure, Result.andThen_ok, invoke, builtin, g1]
          rw [this]
          exact .val g2 g3 g4
        | err n => exact absurd hr (hne n)
        | _ => rw [hr] at hv; exact hv.elim
      · exact absurd h.symm (hne 13)
    · rename_i hcal
      split at h
      · rename_i u1 s x ha
        have hE' : ∀ x ∈ c.args.toList, ∀ v, ev x = some v → VR ρ v (f x) := fun x hx => hE x (by simp [Op.operands, Call.operands, hcal]; simpa using hx)
        obtain ⟨ys, rs, e, h1, h2⟩ := (evs_sound ha hE').cons_inv
        obtain ⟨yx, rs', rfl, h3, h4⟩ := h2.cons_inv
        have := h4.nil_inv
        subst this
        have hargs : c.args.map f = #[ys, yx] := by rw [← Array.toList_inj]; simpa using e
        cases hr : deleteA P σ c.argTypes s x with
        | none => rw [hr] at h; exact absurd h.symm (hne 17)
        | some σ' =>
          rw [hr] at h
          subst h
          obtain ⟨w', g1, g3, g4⟩ := delete_sound (P := P) (ty := o.type) hi hr h1 h3
          have : (execOp f o).run P w = .ok (.value (.tuple #[])) w' := by
            simp only [execOp, ho, resolve, hcal, hargs, Sem.run_bind, Sem.run_pure, Result.andThen_ok, invoke, builtin, g1]
          rw [this]
          exact .val (by simp only [VR]; exact ⟨_, rfl, VRs.nil⟩) g3 g4
      · exact absurd h.symm (hne 18)
    · rename_i hcal
      split at h
      · rename_i u1 s x ha
        subst h
        have hE' : ∀ x ∈ c.args.toList, ∀ v, ev x = some v → VR ρ v (f x) := fun x hx => hE x (by simp [Op.operands, Call.operands, hcal]; simpa using hx)
        obtain ⟨ys, rs, e, h1, h2⟩ := (evs_sound ha hE').cons_inv
        obtain ⟨yx, rs', rfl, h3, h4⟩ := h2.cons_inv
        have := h4.nil_inv
        subst this
        have hargs : c.args.map f = #[ys, yx] := by rw [← Array.toList_inj]; simpa using e
        have hv := copy_val P σ c.argTypes s x
        cases hr : copyA P σ c.argTypes s x with
        | val v σ' =>
          obtain ⟨z, w', ρ', g1, g2, g3, g4⟩ := copy_sound (P := P) (ty := o.type) hi hr h1 h3
          have : (execOp f o).run P w = .ok (.value z) w' := by
            simp only [execOp, ho, resolve, hcal, hargs, Sem.run_bind, Sem.run_pure, Result.andThen_ok, invoke, builtin, g1]
          rw [this]
          exact .val g2 g3 g4
        | err n => exact absurd hr (hne n)
        | _ => rw [hr] at hv; exact hv.elim
      · exact absurd h.symm (hne 14)
    · exact absurd h.symm (hne 15)
  | _ => rw [ho] at h; exact absurd h.symm (hne 16)
end
end Go.Ev

/- The evaluator: code, calls, rounds. -/
namespace Go.Ev

inductive Ex where
  | normal
  | exit (id : Nat)
  | goto (l : Nat)
  | ret

/-- A deferred call: a range over a function's mark. -/
inductive DE where
  | mark (b : Pos)

/-- What a piece of code comes to. -/
inductive CR where
  | ok (e : Ex) (t : PT AV) (d : List DE) (σ : AHeap)
  | err (n : Nat)
/-- What a call comes to. -/
inductive KR where
  | ret (v : AV) (σ : AHeap)
  | err (n : Nat)

inductive Kind where
  | pure | read | alloc | heavy

def isMap (P : Program) (t : Option TypeId) : Bool :=
  match t with
  | some t => match P.underlying t with | some (.map _ _) => true | _ => false
  | none => false

def kindOf (P : Program) : Op → Kind
  | .load .. | .lookup .. => .read
  | .alloc .. | .box .. | .buildSlice .. | .makeSlice .. | .makeMap .. => .alloc
  | .store .. | .mapUpdate .. => .heavy
  | .call c => match c.callee with
    | .builtin .len => bif isMap P c.argTypes[0]? then .read else .pure
    | .builtin .min | .builtin .max => .pure
    | _ => .heavy
  | .defer _ => .heavy
  | _ => .pure

/-- Operands; G: so many globals are laid. -/
noncomputable def evalT (G : Nat) (t : PT AV) : Operand → Option AV
  | .tmp k => t.get (posOf k)
  | .const v => ofVal v
  | .global g => bif Nat.ble (Nat.succ g) G then some (.ptr (posOf g) 0) else none
  | .func f => some (.func f [] [])

noncomputable def opX (P : Program) (ev : Operand → Option AV) (σ : AHeap) (op : Op) : HR :=
  match kindOf P op with
  | .pure => match pureA P ev op with | some v => .val v σ | none => .err 1
  | .read => match readA P ev σ op with | some v => .val v σ | none => .err 2
  | .alloc => match allocA P ev op with | some (ob, mk) => .val (mk.of σ.next) (σ.alloc ob) | none => .err 3
  | .heavy => heavyA P ev σ op

/-- A temporary is set. -/
noncomputable def putT (t : PT AV) (n : Nat) (dst : Option Nat) (v : AV) : Option (PT AV) :=
  match dst with
  | none => some t
  | some k => bif Nat.ble (Nat.succ k) n then some (t.put (some v) (posOf k)) else none

def unit : AV := .tuple []

/-- Is the operation wanted? -/
noncomputable def wantedA (ops : Array Oper) (t : PT AV) (o : Oper) : Option Bool :=
  match o.guard with
  | none => some true
  | some (j, want) => match (ops[j]?).bind (·.dst) with
    | some k => match t.get (posOf k) with
      | some (.bool b) => some (bif b then want else (bif want then false else true))
      | some (.tuple _) => some false
      | _ => none
    | none => some false

abbrev IhC := Code → PT AV → Nat → List DE → Option Pos → AHeap → CR

noncomputable def putAll (n : Nat) (ks : List Nat) (vs : List AV) (t : PT AV) : Option (PT AV) :=
  List.rec (motive := fun _ => List AV → PT AV → Option (PT AV)) (fun vs t => List.rec (motive := fun _ => Option (PT AV)) (some t) (fun _ _ _ => none) vs)
    (fun k _ ih vs t => List.rec (motive := fun _ => Option (PT AV)) none (fun v r _ => match putT t n (some k) v with | some t' => ih r t' | none => none) vs) ks vs t

/-- The way out of a round, as the jump that it leaves. -/
def jumpOf : Ex → Option Code
  | .normal => none
  | .ret => some .ret
  | .exit id => some (.exit id)
  | .goto g => some (.goto g)
def stateOf : Ex → LoopState
  | .normal => .ready
  | _ => .done
def wentOn : Ex → Bool
  | .normal => true
  | _ => false

/-- A round of a range over a function: yield is called. -/
noncomputable def roundX (ih : IhC) (l : Pos) (args : List AV) (σ : AHeap) : KR :=
  match σ.m.get l with
  | some (.loop _ _ tmps n params assign body _) =>
    match putAll n params args tmps with
    | some t => match ih assign t n [] (some l) σ with
      | .ok .normal t [] σ₁ => match σ₁.m.get l with
        | some (.loop .ready p tmps n' params assign body' df) =>
          match ih body t n [] (some l) (σ₁.setObj l (.loop .busy p tmps n' params assign body' df)) with
          | .ok e _ [] σ₂ => match σ₂.m.get l with
            | some (.loop _ _ tmps n params assign body df) => .ret (.bool (wentOn e)) (σ₂.setObj l (.loop (stateOf e) (jumpOf e) tmps n params assign body df))
            | _ => .err 61
          | .err k => .err k
          | _ => .err 62
        | _ => .err 63
      | .err k => .err k
      | _ => .err 64
    | none => .err 65
  | _ => .err 66

noncomputable def argsT (n : Nat) (args : List AV) : Option (PT AV) :=
  List.rec (motive := fun _ => Nat → PT AV → Option (PT AV)) (fun _ t => some t) (fun v _ ih k t => match putT t n (some k) v with | some t' => ih (Nat.succ k) t' | none => none) args 0 .leaf

/-- One of a function's results. -/
noncomputable def resultA (P : Program) (t : PT AV) (σ : AHeap) : ResultVar → Option AV
  | .tmp k => t.get (posOf k)
  | .cell k ty => match t.get (posOf k) with
    | some (.ptr b off) => match σ.m.get b with
      | some (.row cells _ _) => match aggOf P ty with
        | some (some n) => bif Nat.ble (off + n) (lenN cells) then some (.agg (takeN (dropN cells off) n)) else none
        | some none => nth cells off
        | none => none
      | _ => none
    | _ => none
noncomputable def resultsA (P : Program) (fn : Func) (t : PT AV) (σ : AHeap) : Option AV :=
  match allSome (resultA P t σ) fn.results.toList with
  | some [v] => some v
  | some vs => some (.tuple vs)
  | none => none

/-- The marks are taken off. -/
noncomputable def leaveX (d : List DE) (σ : AHeap) : Option AHeap :=
  List.rec (motive := fun _ => AHeap → Option AHeap) (fun σ => some σ)
    (fun e _ ih σ => match e with
      | .mark b => match σ.m.get b with
        | some .mark => ih (σ.setObj b .dead)
        | _ => none) d σ

noncomputable def endX (P : Program) (fn : Func) (t : PT AV) (d : List DE) (σ : AHeap) : KR :=
  match leaveX d σ with
  | some σ => match resultsA P fn t σ with | some v => .ret v σ | none => .err 70
  | none => .err 71

noncomputable def callX (P : Program) (ih : IhC) (f : Nat) (args : List AV) (σ : AHeap) : KR :=
  match P.funcs[f]? with
  | some fn => match fn.body, argsT fn.ntmps args with
    | some c, some t => match ih c t fn.ntmps [] none σ with
      | .ok .normal t d σ => endX P fn t d σ
      | .ok .ret t d σ => endX P fn t d σ
      | .err k => .err k
      | _ => .err 72
    | _, _ => .err 73
  | none => .err 74

/-- What an operation comes to, calls and rounds and all. -/
noncomputable def effX (P : Program) (ih : IhC) (r : HR) : KR :=
  match r with
  | .val v σ => .ret v σ
  | .skip σ => .ret unit σ
  | .enter f args σ => callX P ih f args σ
  | .round l args σ => roundX ih l args σ
  | .err e => .err e

/-- One operation of a region. -/
noncomputable def oneX (P : Program) (G : Nat) (ih : IhC) (ops : Array Oper) (n : Nat) (o : Oper) (t : PT AV) (σ : AHeap) (k : PT AV → AHeap → CR) : CR :=
  match wantedA ops t o with
  | some true => match effX P ih (opX P (evalT G t) σ o.op) with
    | .ret v σ' => match putT t n o.dst v with | some t' => k t' σ' | none => .err 80
    | .err e => .err e
  | some false => match putT t n o.dst unit with | some t' => k t' σ | none => .err 84
  | none => .err 85

noncomputable def opsX (P : Program) (G : Nat) (ih : IhC) (ops : Array Oper) (n : Nat) (d : List DE) (l : List Oper) : PT AV → AHeap → CR :=
  List.rec (motive := fun _ => PT AV → AHeap → CR) (fun t σ => .ok .normal t d σ)
    (fun o _ k t σ => oneX P G ih ops n o t σ k) l

/-! A region that draws its order. -/
/-- All that an operation waits for, through others: bits. -/
def ancOf (ops : Array Oper) : Array Nat := Region.before ops
def anc (A : Array Nat) (i j : Nat) : Bool := (A.getD i 0).testBit j
/-- Does operation i wait for j? -/
def waits (ops : Array Oper) (i j : Nat) : Bool := ((ops[i]?).map fun o => o.after.any fun e => Region.binds .any e && e.on == j).getD false

def isHeavy (P : Program) (ops : Array Oper) (i : Nat) : Bool := match (ops[i]?).map fun o => kindOf P o.op with | some .heavy => true | _ => false
/-- Does it look at memory, or lay a block? -/
def looksMem (P : Program) (ops : Array Oper) (i : Nat) : Bool := match (ops[i]?).map fun o => kindOf P o.op with | some .read | some .alloc => true | _ => false

/-- The slots that an operation looks at. -/
def slotsOf (ops : Array Oper) (o : Oper) : List Nat :=
  (o.op.operands.toList.filterMap fun | .tmp k => some k | _ => none) ++ (match o.guard with | some (j, _) => ((ops[j]?).bind (·.dst)).toList | none => [])
def dstOf (ops : Array Oper) (i : Nat) : Option Nat := (ops[i]?).bind (·.dst)

/-- What is to be looked at again behind an operation that turns memory. -/
def planGo (P : Program) (ops : Array Oper) (A : Array Nat) : Nat → List Nat → List (Nat × List Nat)
  | 0, _ => []
  | n + 1, done =>
    let ready := (List.range ops.size).filter fun i => !done.contains i && (List.range ops.size).all fun j => !waits ops i j || done.contains j
    match ready.find? fun i => !isHeavy P ops i with
    | some i => (i, []) :: planGo P ops A n (done ++ [i])
    | none => match ready with
      | i :: _ => (i, done.filter fun j => !anc A i j && looksMem P ops j) :: planGo P ops A n (done ++ [i])
      | [] => []
def plan (P : Program) (ops : Array Oper) : List (Nat × List Nat) := planGo P ops (ancOf ops) ops.size []

/-- Is the order one that the others come to? -/
def planOK (P : Program) (ops : Array Oper) (A : Array Nat) : List (Nat × List Nat) → List Nat → Bool
  | [], done => (List.range ops.size).all fun i => done.contains i
  | (i, rc) :: rest, done =>
    Nat.blt i ops.size && !done.contains i && ((List.range ops.size).all fun j => !waits ops i j || done.contains j) &&
    (!isHeavy P ops i || (List.range ops.size).all fun j =>
      bif done.contains j then anc A i j || !looksMem P ops j || rc.contains j
      else j == i || (List.range ops.size).any fun e => waits ops j e && !done.contains e) &&
    planOK P ops A rest (i :: done)

/-- What is asked of the edges, the slots and the operations. -/
def shapeOK (P : Program) (ops : Array Oper) (A : Array Nat) : Bool :=
  (List.range ops.size).all fun i => match ops[i]? with
    | none => false
    | some o =>
      (!looksMem P ops i || o.dst.isSome) &&
      -- the edges
      (o.after.all fun e => !Region.binds .any e || Nat.blt e.on ops.size) &&
      ((List.range ops.size).all fun j => !anc A i j || waits ops i j || (List.range ops.size).any fun d => waits ops i d && anc A d j) &&
      -- no slot is set twice; what is looked at is set ahead, or behind by one that waits
      ((List.range ops.size).all fun j => match dstOf ops j with
        | none => true
        | some k => (j == i || !(o.dst == some k)) && (!(slotsOf ops o).contains k || anc A i j || (!looksMem P ops i && (j == i || anc A j i))))

noncomputable def beqA (x y : AV) : Bool :=
  match x, y with
  | .agg xs, .agg ys => beqL xs ys
  | x, y => beq1 x y
where
  beqP (p q : Pos) : Bool :=
    Pos.rec (motive := fun _ => Pos → Bool) (fun q => Pos.rec (motive := fun _ => Bool) true (fun _ _ => false) (fun _ _ => false) q)
      (fun _ ih q => Pos.rec (motive := fun _ => Bool) false (fun q _ => ih q) (fun _ _ => false) q) (fun _ ih q => Pos.rec (motive := fun _ => Bool) false (fun _ _ => false) (fun q _ => ih q) q) p q
  beqC (c d : Cap) : Bool :=
    match c, d with
    | .known a, .known b => Nat.beq a b
    | .upto a, .upto b => Nat.beq a b
    | _, _ => false
  beq1 (x y : AV) : Bool :=
    match x, y with
    | .bool a, .bool b => bif a then b else (bif b then false else true)
    | .int j a, .int k b => eqK j k && eqI a b
    | .str a, .str b => eqS a b
    | .nilPtr, .nilPtr => true
    | .ptr b o, .ptr b' o' => beqP b b' && Nat.beq o o'
    | .nilSlice, .nilSlice => true
    | .slice b o l c, .slice b' o' l' c' => beqP b b' && Nat.beq o o' && Nat.beq l l' && beqC c c'
    | .nilMap, .nilMap => true
    | .map b, .map b' => beqP b b'
    | .nilFunc, .nilFunc => true
    | .nilIface, .nilIface => true
    | .func f [] [], .func g [] [] => Nat.beq f g
    | .func f [] [.ptr b o], .func g [] [.ptr b' o'] => Nat.beq f g && beqP b b' && Nat.beq o o'
    | _, _ => false
  beqL (xs ys : List AV) : Bool :=
    List.rec (motive := fun _ => List AV → Bool) (fun ys => List.rec (motive := fun _ => Bool) true (fun _ _ _ => false) ys)
      (fun x _ ih ys => List.rec (motive := fun _ => Bool) false (fun y r _ => bif beq1 x y then ih r else false) ys) xs ys

/-- Does the operation still come to what it came to? -/
noncomputable def stillX (P : Program) (G : Nat) (ops : Array Oper) (t : PT AV) (σ : AHeap) (i : Nat) : Bool :=
  match ops[i]? with
  | some o => match wantedA ops t o with
    | some true => match o.dst with
      | some k => match t.get (posOf k) with
        | some v => match kindOf P o.op with
          | .read => match readA P (evalT G t) σ o.op with | some u => beqA u v | none => false
          | .alloc => match allocA P (evalT G t) o.op, v with
            | some (.row cs e false, .ptr), .ptr b 0 => match σ.m.get b with | some (.row cs' e' false) => Nat.beq e e' && beqA.beqL cs cs' | _ => false
            | some (.row cs e false, .slice n c), .slice b 0 n' (.known c') => match σ.m.get b with | some (.row cs' e' false) => Nat.beq e e' && beqA.beqL cs cs' && Nat.beq n n' && Nat.beq c c' | _ => false
            | _, _ => false
          | _ => false
        | none => false
      | none => false
    | some false => true
    | none => false
  | none => false
noncomputable def stillAll (P : Program) (G : Nat) (ops : Array Oper) (t : PT AV) (σ : AHeap) (l : List Nat) : Bool :=
  List.rec (motive := fun _ => Bool) true (fun i _ r => bif stillX P G ops t σ i then r else false) l

noncomputable def planX (P : Program) (G : Nat) (ih : IhC) (ops : Array Oper) (n : Nat) (d : List DE) (l : List (Nat × List Nat)) : PT AV → AHeap → CR :=
  List.rec (motive := fun _ => PT AV → AHeap → CR) (fun t σ => .ok .normal t d σ)
    (fun p _ k t σ => match ops[p.1]? with
      | some o => oneX P G ih ops n o t σ (fun t' σ' => bif stillAll P G ops t' σ' p.2 then k t' σ' else .err 86)
      | none => .err 87) l

/-- The region's operations in the plan's order, where the plan is good. -/
noncomputable def drawX (P : Program) (G : Nat) (ih : IhC) (ops : Array Oper) (n : Nat) (d : List DE) (t : PT AV) (σ : AHeap) : CR :=
  bif shapeOK P ops (ancOf ops) && planOK P ops (ancOf ops) (plan P ops) [] then planX P G ih ops n d (plan P ops) t σ else .err 88

noncomputable def condX (c : Option AV) (x y : CR) : CR :=
  match c with
  | some (.bool true) => x
  | some (.bool false) => y
  | _ => .err 90
noncomputable def seqX (r : CR) (k : PT AV → List DE → AHeap → CR) : CR :=
  match r with
  | .ok .normal t d σ => k t d σ
  | r => r
noncomputable def blockX (id : Nat) (r : CR) : CR :=
  match r with
  | .ok (.exit j) t d σ => bif Nat.beq j id then .ok .normal t d σ else .ok (.exit j) t d σ
  | r => r

/-- The block for a loop's deferred calls, and its mark. -/
noncomputable def marksX (ro : Option Pos) (d : List DE) (σ : AHeap) : Option (Pos × AHeap × List DE) :=
  match ro with
  | none => some (σ.next, σ.alloc .mark, DE.mark σ.next :: d)
  | some l => match σ.m.get l with
    | some (.loop _ _ _ _ _ _ _ df) => some (df, σ, d)
    | _ => none

/-- Behind the call of a range over a function. -/
noncomputable def afterX (ih : IhC) (l : Pos) (t : PT AV) (n : Nat) (d : List DE) (ro : Option Pos) (σ : AHeap) : CR :=
  match σ.m.get l with
  | some (.loop st p tmps n' ps as bd df) =>
    match st with
    | .busy => .err 91
    | _ => match p with
      | none => .ok .normal t d (σ.setObj l (.loop .exhausted none tmps n' ps as bd df))
      | some c => ih c t n d ro (σ.setObj l (.loop .exhausted (some c) tmps n' ps as bd df))
  | _ => .err 92

/-- A range over a function. -/
noncomputable def rangeX (P : Program) (G : Nat) (ih : IhC) (g : Operand) (ps : Array Tmp) (assign body : Code) (t : PT AV) (n : Nat) (d : List DE) (ro : Option Pos) (σ : AHeap) : CR :=
  match marksX ro d σ with
  | some (df, σ₁, d₁) =>
    match evalT G t g with
    | some (.func f fi ca) => bif isGo P f then
        match callX P ih f (appN fi (.yield σ₁.next :: ca)) (σ₁.alloc (.loop .ready none t n ps.toList assign body df)) with
        | .ret _ σ₃ => afterX ih σ₁.next t n d₁ ro σ₃
        | .err e => .err e
      else .err 93
    | _ => .err 94
  | none => .err 95

noncomputable def stepX (P : Program) (G : Nat) (ih : IhC) (c : Code) (t : PT AV) (n : Nat) (d : List DE) (ro : Option Pos) (σ : AHeap) : CR :=
  match c with
  | .skip | .label _ => .ok .normal t d σ
  | .region _ ops draw => bif draw then drawX P G ih ops n d t σ else opsX P G ih ops n d ops.toList t σ
  | .seq a b => seqX (ih a t n d ro σ) (fun t d σ => ih b t n d ro σ)
  | .cond c a b => condX (evalT G t c) (ih a t n d ro σ) (ih b t n d ro σ)
  | .block id b => blockX id (ih b t n d ro σ)
  | .loop b => seqX (ih b t n d ro σ) (fun t d σ => ih (.loop b) t n d ro σ)
  | .exit id => .ok (.exit id) t d σ
  | .ret => .ok .ret t d σ
  | .rangeFunc g ps assign body => rangeX P G ih g ps assign body t n d ro σ
  | _ => .err 99

noncomputable def runX (P : Program) (G : Nat) (fuel : Nat) : IhC := Nat.rec (motive := fun _ => IhC) (fun _ _ _ _ _ _ => .err 100) (fun _ ih => stepX P G ih) fuel

/-- A call, from a heap without blocks of its own. -/
noncomputable def evalCall (P : Program) (G fuel : Nat) (f : Nat) (args : List AV) (σ : AHeap) : KR := callX P (runX P G fuel) f args σ

end Go.Ev

/- What activations stand for; results. -/
namespace Go.Ev

def fenc : Option Nat → Fence
  | none => Fence.wide
  | some l => Fence.wide.inRound l
theorem fenc_fn (rl : Option Nat) (f : FuncId) : (fenc rl).fn f := by cases rl <;> trivial
theorem fenc_depth (rl : Option Nat) : (fenc rl).depth = none := by cases rl <;> rfl
theorem fenc_round (rl : Option Nat) : (fenc rl).round = rl := by cases rl <;> rfl
theorem fenc_deep (rl : Option Nat) (m : Nat) : (fenc rl).depth.isSome = true → 1 ≤ m := by rw [fenc_depth]; intro h; cases h
theorem fenc_calls {m : Nat} {P : Program} {f : FuncId} {args : Array Value} {w : World} {R : Ending → World → Prop} (rl : Option Nat) (h : CallsIn Fence.wide m P f args w R) : CallsIn (fenc rl) m P f args w R := by
  cases rl with
  | none => exact h
  | some l => exact h.inRound l
theorem fenc_in (rl : Option Nat) (l : Nat) : (fenc rl).inRound l = fenc (some l) := by cases rl <;> rfl

def DR (ρ : Ren) : List DE → List Deferred → Prop
  | [], ds => ds = []
  | .mark b :: d, ds => ∃ l r, ρ b = some l ∧ ds = { target := .collected l.blk, args := #[] } :: r ∧ DR ρ d r
theorem DR.mono {ρ ρ' : Ren} (h : ρ.le ρ') : ∀ {d : List DE} {ds : List Deferred}, DR ρ d ds → DR ρ' d ds
  | [], ds, hd => hd
  | .mark b :: d, ds, hd => let ⟨l, r, h1, h2, h3⟩ := hd; ⟨l, r, h _ _ h1, h2, DR.mono h h3⟩

def exOf : Ex → Exit
  | .normal => .normal
  | .exit i => .exit i
  | .goto i => .goto i
  | .ret => .ret

def RO (ρ : Ren) : Option Pos → Option Nat → Prop
  | none, none => True
  | some b, some l => ∃ loc, ρ b = some loc ∧ loc.blk = l
  | _, _ => False
theorem RO.mono {ρ ρ' : Ren} (h : ρ.le ρ') : ∀ {ro : Option Pos} {rl : Option Nat}, RO ρ ro rl → RO ρ' ro rl
  | none, none, _ => trivial
  | some _, some _, ⟨loc, h1, h2⟩ => ⟨loc, h _ _ h1, h2⟩

def GR (ρ : Ren) (G : Nat) : Prop := ∀ g, g < G → ∃ c, ρ (posOf g) = some ⟨g, 0, c⟩
theorem GR.mono {ρ ρ' : Ren} {G : Nat} (h : ρ.le ρ') (hg : GR ρ G) : GR ρ' G := fun g hlt => let ⟨c, hc⟩ := hg g hlt; ⟨c, h _ _ hc⟩

/-- What the code evaluator's answers are worth. -/
def Sound (P : Program) (G : Nat) (ih : IhC) : Prop :=
  ∀ (c : Code) (t : PT AV) (n : Nat) (d : List DE) (ro : Option Pos) (σ : AHeap) (e : Ex) (t' : PT AV) (d' : List DE) (σ' : AHeap), ih c t n d ro σ = .ok e t' d' σ' →
    ∀ (ρ : Ren) (w : World) (a : Act) (rl : Option Nat) (m : Nat) (Q : Exit → Act → World → Prop), Inv ρ σ w → GR ρ G → TR ρ t n a.tmps → DR ρ d a.defers → RO ρ ro rl →
      (∀ (ρ' : Ren) (w' : World) (a' : Act), Inv ρ' σ' w' → Stp ρ σ w ρ' σ' w' → TR ρ' t' n a'.tmps → DR ρ' d' a'.defers → Q (exOf e) a' w') → c.wpIn (fenc rl) m P Q a w

section
variable {P : Program} {G : Nat} {ρ : Ren} {σ : AHeap} {w : World}

theorem TR.set {t : PT AV} {n k : Nat} {tmps : Array Value} {v : AV} {x : Value} (h : TR ρ t n tmps) (hk : k < n) (hv : VR ρ v x) : TR ρ (t.put (some v) (posOf k)) n (tmps.setIfInBounds k x) := by
  refine ⟨by simpa using h.1, fun j u hu => ?_⟩
  by_cases e : j = k
  · subst e
    rw [PT.get_put_same] at hu; cases hu
    refine ⟨hk, ?_⟩
    have : j < tmps.size := by rw [h.1]; exact hk
    simpa [Array.getD_eq_getD_getElem?, this] using hv
  · rw [PT.get_put_other _ _ _ _ (fun h' => e (posOf_inj h'))] at hu
    obtain ⟨h1, h2⟩ := h.2 j u hu
    refine ⟨h1, ?_⟩
    have : (tmps.setIfInBounds k x).getD j undef = tmps.getD j undef := by
      simp only [Array.getD_eq_getD_getElem?, Array.getElem?_setIfInBounds]
      rw [if_neg (fun h' => e h'.symm)]
    rw [this]; exact h2
theorem putT_some {t t' : PT AV} {n k : Nat} {v : AV} (h : putT t n (some k) v = some t') : k < n ∧ t' = t.put (some v) (posOf k) := by
  unfold putT at h
  simp only [ite_cond] at h
  split at h
  · rename_i hk
    cases h
    exact ⟨Nat.le_of_ble_eq_true hk, rfl⟩
  · cases h
theorem TR.put {t t' : PT AV} {n : Nat} {a : Act} {dst : Option Tmp} {v : AV} {x : Value} (h : TR ρ t n a.tmps) (hp : putT t n dst v = some t') (hv : VR ρ v x) : TR ρ t' n (a.put dst x).tmps := by
  cases dst with
  | none => cases hp; exact h
  | some k =>
    obtain ⟨hk, rfl⟩ := putT_some hp
    exact h.set hk hv
theorem put_defers (a : Act) (dst : Option Tmp) (x : Value) : (a.put dst x).defers = a.defers := by cases dst <;> rfl

theorem VR_unit : VR ρ unit undef := by simp only [unit, VR]; exact ⟨_, rfl, VRs.nil⟩

theorem eval_sound {t : PT AV} {n : Nat} {a : Act} {x : Operand} {v : AV} (hg : GR ρ G) (ht : TR ρ t n a.tmps) (h : evalT G t x = some v) : VR ρ v (a.eval x) := by
  cases x with
  | tmp k => exact (ht.2 k v h).2
  | const c => exact ofVal_sound h
  | global g =>
    simp only [evalT, ite_cond] at h
    split at h
    · rename_i hlt
      cases h
      obtain ⟨c, hc⟩ := hg g (Nat.le_of_ble_eq_true hlt)
      simp only [VR]
      exact ⟨_, hc, by simp [Act.eval]⟩
    · cases h
  | func f =>
    cases h
    simp only [VR]
    exact ⟨_, _, rfl, VRs.nil, VRs.nil⟩

theorem ER_of {t : PT AV} {n : Nat} {a : Act} (op : Op) (hg : GR ρ G) (ht : TR ρ t n a.tmps) : ER ρ (evalT G t) a.eval op := fun _ _ _ hv => eval_sound hg ht hv

/-- What a guard looks at. -/
theorem wanted_at {ops : Array Oper} {t : PT AV} {o : Oper} {b : Bool} {tmps : Array Value} (h : wantedA ops t o = some b)
    (hs : ∀ j want k, o.guard = some (j, want) → (ops[j]?).bind (·.dst) = some k → ∀ v, t.get (posOf k) = some v → k < tmps.size ∧ VR ρ v (tmps.getD k undef)) :
    Region.wanted o (yielded ops tmps) = b := by
  unfold wantedA at h
  unfold Region.wanted
  cases hg : o.guard with
  | none => rw [hg] at h; cases h; rfl
  | some jw =>
    obtain ⟨j, want⟩ := jw
    rw [hg] at h
    dsimp only at h ⊢
    cases hk : (ops[j]?).bind (·.dst) with
    | none =>
      rw [hk] at h; cases h
      simp [yielded, hk]
    | some k =>
      rw [hk] at h
      dsimp only at h
      cases hv : t.get (posOf k) with
      | none => rw [hv] at h; cases h
      | some v =>
        rw [hv] at h
        obtain ⟨hlt, hr⟩ := hs j want k hg hk v hv
        have hget : tmps[k]? = some (tmps.getD k undef) := by
          rw [Array.getD_eq_getD_getElem?, Array.getElem?_eq_getElem hlt]; rfl
        generalize tmps.getD k undef = x at hr hget
        cases v with
        | bool c =>
          simp only [VR] at hr
          subst hr
          simp only [yielded, hk, Option.bind_some, hget]
          cases h
          cases c <;> cases want <;> rfl
        | tuple cs =>
          simp only [VR] at hr
          obtain ⟨y, rfl, _⟩ := hr
          cases h
          simp [yielded, hk, hget]
        | _ => cases h
theorem wanted_sound {ops : Array Oper} {t : PT AV} {o : Oper} {b : Bool} {n : Nat} {tmps : Array Value} (h : wantedA ops t o = some b) (ht : TR ρ t n tmps) : Region.wanted o (yielded ops tmps) = b :=
  wanted_at h fun _ _ k _ _ v hv => ⟨by rw [ht.1]; exact (ht.2 k v hv).1, (ht.2 k v hv).2⟩

theorem putAll_sound {n : Nat} : ∀ (ks : List Nat) (vs : List AV) (t t' : PT AV) (tmps : Array Value) (xs : List Value), putAll n ks vs t = some t' → TR ρ t n tmps → VRs ρ vs xs →
    ks.length = xs.length ∧ TR ρ t' n ((ks.zip xs).foldl (fun tmps (t, a) => tmps.setIfInBounds t a) tmps)
  | [], [], t, t', tmps, xs, h, ht, hv => by
    rw [hv.nil_inv]
    have h' : some t = some t' := h
    cases h'
    exact ⟨rfl, ht⟩
  | [], _ :: _, _, _, _, _, h, _, _ => by have h' : (none : Option (PT AV)) = some _ := h; cases h'
  | _ :: _, [], _, _, _, _, h, _, _ => by have h' : (none : Option (PT AV)) = some _ := h; cases h'
  | k :: ks, v :: vs, t, t', tmps, xs, h, ht, hv => by
    obtain ⟨x, r, rfl, h1, h2⟩ := hv.cons_inv
    have h' : (match putT t n (some k) v with | some t' => putAll n ks vs t' | none => none) = some t' := h
    cases hp : putT t n (some k) v with
    | none => rw [hp] at h'; cases h'
    | some t₁ =>
      rw [hp] at h'
      obtain ⟨hk, rfl⟩ := putT_some hp
      obtain ⟨g1, g2⟩ := putAll_sound ks vs _ t' (tmps.setIfInBounds k x) r h' (ht.set hk h1) h2
      exact ⟨by simp [g1], g2⟩

/-- An activation's start. -/
theorem args_sound {n : Nat} {args : List AV} {xs : Array Value} {t : PT AV} (h : argsT n args = some t) (hv : VRs ρ args xs.toList) : TR ρ t n (xs ++ Array.replicate (n - xs.size) undef) := by
  have key : ∀ (args : List AV) (ys : List Value) (k : Nat) (t t' : PT AV), (List.rec (motive := fun _ => Nat → PT AV → Option (PT AV)) (fun _ t => some t) (fun v _ ih k t => match putT t n (some k) v with | some t' => ih (Nat.succ k) t' | none => none) args : Nat → PT AV → Option (PT AV)) k t = some t' →
      VRs ρ args ys → (∀ j v, t.get (posOf j) = some v → j < k ∧ j < n) →
      (∀ j v, t'.get (posOf j) = some v → j < n ∧ ((j < k ∧ t.get (posOf j) = some v) ∨ ∃ y, k ≤ j ∧ ys[j - k]? = some y ∧ VR ρ v y)) ∧ (args = [] ∨ k + args.length ≤ n) := by
    intro args
    induction args with
    | nil =>
      intro ys k t t' h hv ht
      have h' : some t = some t' := h
      cases h'
      exact ⟨fun j v hj => ⟨(ht j v hj).2, .inl ⟨(ht j v hj).1, hj⟩⟩, .inl rfl⟩
    | cons v args ih =>
      intro ys k t t' h hv ht
      obtain ⟨x, r, rfl, h1, h2⟩ := hv.cons_inv
      dsimp only at h
      cases hp : putT t n (some k) v with
      | none => rw [hp] at h; cases h
      | some t₁ =>
        rw [hp] at h
        obtain ⟨hk, rfl⟩ := putT_some hp
        obtain ⟨g1, g2⟩ := ih r (k + 1) _ t' h h2 (fun j u hj => by
          by_cases e : j = k
          · subst e; exact ⟨by omega, hk⟩
          · rw [PT.get_put_other _ _ _ _ (fun h' => e (posOf_inj h'))] at hj
            have := ht j u hj
            exact ⟨by omega, this.2⟩)
        refine ⟨fun j u hj => ?_, .inr ?_⟩
        · obtain ⟨q1, q2⟩ := g1 j u hj
          refine ⟨q1, ?_⟩
          rcases q2 with ⟨hlt, hg⟩ | ⟨y, hle, hy, hr⟩
          · by_cases e : j = k
            · subst e
              rw [PT.get_put_same] at hg; cases hg
              exact .inr ⟨x, Nat.le_refl _, by simp, h1⟩
            · rw [PT.get_put_other _ _ _ _ (fun h' => e (posOf_inj h'))] at hg
              exact .inl ⟨by omega, hg⟩
          · refine .inr ⟨y, by omega, ?_, hr⟩
            have : j - k = (j - (k + 1)) + 1 := by omega
            rw [this]; simpa using hy
        · rcases g2 with rfl | g2
          · simp; omega
          · simp; omega
  obtain ⟨g1, g2⟩ := key args xs.toList 0 .leaf t h hv (fun j v hj => by rw [PT.get_leaf] at hj; cases hj)
  have hlen := hv.length
  have hle : xs.size ≤ n := by
    rcases g2 with rfl | g2
    · simp at hlen; rw [hlen]; simp
    · simp at hlen; omega
  refine ⟨by simp; omega, fun j v hj => ?_⟩
  obtain ⟨q1, q2⟩ := g1 j v hj
  refine ⟨q1, ?_⟩
  rcases q2 with ⟨hlt, _⟩ | ⟨y, _, hy, hr⟩
  · omega
  · rw [Nat.sub_zero] at hy
    have hjx : j < xs.size := by simpa using (List.getElem?_eq_some_iff.1 hy).1
    have : (xs ++ Array.replicate (n - xs.size) undef).getD j undef = y := by
      rw [Array.getD_eq_getD_getElem?, Array.getElem?_append_left hjx, ← Array.getElem?_toList, hy]; rfl
    rw [this]; exact hr

/-! A function's results. -/
def resF (tmps : Array Value) : ResultVar → Sem Value
  | .tmp t => pure (tmps.getD t undef)
  | .cell a t => do loadVar t (← asAddr (tmps.getD a undef))
theorem results_eq (fn : Func) (tmps : Array Value) : results fn tmps = (fn.results.mapM (resF tmps) >>= fun vs => pure (if h : vs.size = 1 then vs[0] else .tuple vs)) := rfl
theorem result_sound (hi : Inv ρ σ w) {t : PT AV} {n : Nat} {tmps : Array Value} (ht : TR ρ t n tmps) {r : ResultVar} {v : AV} (h : resultA P t σ r = some v) :
    ∃ x, (resF tmps r).run P w = .ok x w ∧ VR ρ v x := by
  cases r with
  | tmp k => exact ⟨_, rfl, (ht.2 k v h).2⟩
  | cell k ty =>
    simp only [resultA] at h
    cases hk : t.get (posOf k) with
    | none => rw [hk] at h; cases h
    | some u =>
      rw [hk] at h
      have hvx := (ht.2 k u hk).2
      cases u with
      | ptr b off =>
        dsimp only at h
        cases hg : σ.m.get b with
        | none => rw [hg] at h; cases h
        | some ob =>
          rw [hg] at h
          cases ob with
          | row cells e ro =>
            simp only [VR] at hvx
            obtain ⟨l, hl, hfx⟩ := hvx
            obtain ⟨y, hy, hr⟩ := loadVar_sound (P := P) hi hg hl h
            refine ⟨y, ?_, hr⟩
            simp [resF, hfx, asAddr, hy]
          | _ => cases h
      | _ => cases h

theorem resultsL_sound (hi : Inv ρ σ w) {t : PT AV} {n : Nat} {tmps : Array Value} (ht : TR ρ t n tmps) : ∀ {rs : List ResultVar} {vs : List AV}, allSome (resultA P t σ) rs = some vs →
    ∃ xs : List Value, (rs.mapM (resF tmps) : Sem (List Value)).run P w = .ok xs w ∧ VRs ρ vs xs
  | [], vs, h => by rw [allSome_nil] at h; cases h; exact ⟨[], by simp, VRs.nil⟩
  | r :: rs, vs, h => by
    obtain ⟨y, r', h1, h2, rfl⟩ := allSome_cons h
    obtain ⟨x, hx, hv⟩ := result_sound (P := P) hi ht h1
    obtain ⟨xs, hxs, hvs⟩ := resultsL_sound hi ht h2
    refine ⟨x :: xs, ?_, VRs.cons hv hvs⟩
    simp only [List.mapM_cons, Sem.run_bind, hx, Result.andThen_ok, hxs, Sem.run_pure]

theorem results_sound (hi : Inv ρ σ w) {fn : Func} {t : PT AV} {n : Nat} {tmps : Array Value} (ht : TR ρ t n tmps) {v : AV} (h : resultsA P fn t σ = some v) :
    ∃ x, (results fn tmps).run P w = .ok x w ∧ VR ρ v x := by
  unfold resultsA at h
  cases ha : allSome (resultA P t σ) fn.results.toList with
  | none => rw [ha] at h; cases h
  | some vs =>
    rw [ha] at h
    obtain ⟨xs, hx, hv⟩ := resultsL_sound (P := P) hi ht ha
    have hm : (fn.results.mapM (resF tmps) : Sem (Array Value)).run P w = .ok xs.toArray w := by
      rw [Array.mapM_eq_mapM_toList]
      simp only [Sem.run_map, hx, Result.andThen_ok]
    cases vs with
    | nil =>
      cases h
      have := hv.nil_inv
      subst this
      refine ⟨.tuple #[], by rw [results_eq, Sem.run_bind, hm]; rfl, by simp only [VR]; exact ⟨_, rfl, VRs.nil⟩⟩
    | cons u us =>
      obtain ⟨x, r, rfl, h1, h2⟩ := hv.cons_inv
      cases us with
      | nil =>
        cases h
        have := h2.nil_inv
        subst this
        exact ⟨x, by rw [results_eq, Sem.run_bind, hm]; rfl, h1⟩
      | cons u' us =>
        cases h
        obtain ⟨x', r', rfl, h3, h4⟩ := h2.cons_inv
        refine ⟨.tuple (x :: x' :: r').toArray, by rw [results_eq, Sem.run_bind, hm]; rfl, by simp only [VR]; exact ⟨_, rfl, by simpa using hv⟩⟩
end
end Go.Ev

/- Calls, rounds, operations. -/
namespace Go.Ev
section
variable {P : Program} {G : Nat} {ρ : Ren} {σ : AHeap} {w : World}

theorem putObj_eq (w : World) (r : Nat) (o : Obj) : w.putObj r o = { w with heap := w.heap.setIfInBounds r o } := rfl

/-- An object that is no row is put anew. -/
theorem Inv.putObj (hi : Inv ρ σ w) {b : Pos} {l : Loc} {o o' : AObj} {x : Obj} (hb : σ.m.get b = some o) (hl : ρ b = some l) (hro : o.ro = false) (hro' : o'.ro = false) (ho : ObjR ρ l o' x) :
    Inv ρ (σ.setObj b o') (w.putObj l.blk x) ∧ Stp ρ σ w ρ (σ.setObj b o') (w.putObj l.blk x) := by
  have hlt := hi.blk b l hl
  exact hi.change hb hl hro hro' (World.putObj_heap_same hlt) ho (fun r hr => World.putObj_heap_other hr) (by simp) rfl rfl rfl

theorem leave_sound {fn : Func} {m : Nat} {tmps : Array Value} {R : Ending → World → Prop} : ∀ (d : List DE) (ds : List Deferred) (σ σ₁ : AHeap) (w : World), leaveX d σ = some σ₁ → DR ρ d ds → Inv ρ σ w →
    (∀ w', Inv ρ σ₁ w' → Stp ρ σ w ρ σ₁ w' → ∃ v, (results fn tmps).run P w' = .ok v w' ∧ R (.returned v) w') → LeavesInM Fence.wide m P fn tmps R ds .returning w
  | [], ds, σ, σ₁, w, h, hd, hi, hk => by
    have h' : some σ = some σ₁ := h
    cases h'
    have : ds = [] := hd
    subst this
    exact hk w hi (Stp.refl ρ σ w)
  | .mark b :: d, ds, σ, σ₁, w, h, hd, hi, hk => by
    obtain ⟨l, r, hl, rfl, hd'⟩ := hd
    have h' : (match σ.m.get b with
        | some .mark => leaveX d (σ.setObj b .dead)
        | _ => none) = some σ₁ := h
    cases hb : σ.m.get b with
    | none => rw [hb] at h'; cases h'
    | some o =>
      rw [hb] at h'
      cases o with
      | mark =>
        dsimp only at h'
        obtain ⟨x, hx, hox⟩ := hi.obj b _ l hb hl
        have hox' : x = .deferred (some []) := hox
        subst hox'
        obtain ⟨inv, st⟩ := hi.putObj (o' := .dead) (x := .deferred none) hb hl rfl rfl trivial
        refine ⟨by simp, .inl ⟨l.blk, w.putObj l.blk (.deferred none), rfl, run_takeDeferred hx, ?_⟩⟩
        exact leave_sound d r _ σ₁ _ h' hd' inv fun w' hi' st' => hk w' hi' (st.trans st')
      | _ => cases h'

theorem end_sound {fn : Func} {m n : Nat} {t : PT AV} {d : List DE} {σ₁ : AHeap} {v : AV} {a : Act} {R : Ending → World → Prop} (h : endX P fn t d σ = .ret v σ₁) (hi : Inv ρ σ w) (ht : TR ρ t n a.tmps) (hd : DR ρ d a.defers)
    (hR : ∀ w' x, Inv ρ σ₁ w' → Stp ρ σ w ρ σ₁ w' → VR ρ v x → R (.returned x) w') : LeavesInM Fence.wide m P fn a.tmps R a.defers .returning w := by
  unfold endX at h
  cases hl : leaveX d σ with
  | none => rw [hl] at h; cases h
  | some σ₂ =>
    rw [hl] at h
    dsimp only at h
    cases hr : resultsA P fn t σ₂ with
    | none => rw [hr] at h; cases h
    | some u =>
      rw [hr] at h
      cases h
      refine leave_sound d a.defers σ _ w hl hd hi fun w' hi' st => ?_
      obtain ⟨x, hx, hv⟩ := results_sound (P := P) hi' ht hr
      exact ⟨x, hx, hR w' x hi' st hv⟩

theorem call_sound {ih : IhC} (hS : Sound P G ih) {f : Nat} {args : List AV} {xs : Array Value} {σ' : AHeap} {v : AV} (h : callX P ih f args σ = .ret v σ') (hi : Inv ρ σ w) (hg : GR ρ G) (hx : VRs ρ args xs.toList)
    (rl : Option Nat) (m : Nat) {R : Ending → World → Prop} (hR : ∀ (ρ' : Ren) (w' : World) (x : Value), Inv ρ' σ' w' → Stp ρ σ w ρ' σ' w' → VR ρ' v x → R (.returned x) w') : CallsIn (fenc rl) m P f xs w R := by
  refine fenc_calls rl ?_
  unfold callX at h
  cases hf : P.funcs[f]? with
  | none => rw [hf] at h; cases h
  | some fn =>
  rw [hf] at h
  dsimp only at h
  cases hb : fn.body with
  | none => rw [hb] at h; cases h
  | some c =>
  cases ha : argsT fn.ntmps args with
  | none => rw [hb, ha] at h; cases h
  | some t =>
  rw [hb, ha] at h
  dsimp only at h
  refine callsIn_of_wp_marks hf hb trivial ?_
  have ht := args_sound ha hx
  cases hc : ih c t fn.ntmps [] none σ with
  | err k => rw [hc] at h; cases h
  | ok e t' d' σ₁ =>
    rw [hc] at h
    have hcode := fun (Q : Exit → Act → World → Prop) hQ => hS c t fn.ntmps [] none σ e t' d' σ₁ hc ρ w { tmps := xs ++ Array.replicate (fn.ntmps - xs.size) undef, defers := [] } none m Q hi hg ht rfl trivial hQ
    cases e with
    | normal =>
      refine hcode _ fun ρ' w' a' hi' st ht' hd' => ?_
      exact end_sound h hi' ht' hd' fun w₂ x hi₂ st₂ hv => hR ρ' w₂ x hi₂ (st.trans st₂) hv
    | ret =>
      refine hcode _ fun ρ' w' a' hi' st ht' hd' => ?_
      exact end_sound h hi' ht' hd' fun w₂ x hi₂ st₂ hv => hR ρ' w₂ x hi₂ (st.trans st₂) hv
    | exit i => cases h
    | goto i => cases h

theorem jump_none (e : Ex) : (jumpOf e).isNone = wentOn e := by cases e <;> rfl
theorem round_post {l : Nat} {R : Ending → World → Prop} {e : Ex} {a : Act} (h : ∃ v w', (Instr.endRound l (jumpOf e)).run P w = .ok v w' ∧ R (.returned v) w') : roundPost P l R (exOf e) a w := by
  cases e <;> exact h

theorem round_sound {ih : IhC} (hS : Sound P G ih) {b : Pos} {l : Loc} {args : List AV} {xs : Array Value} {σ' : AHeap} {v : AV} (h : roundX ih b args σ = .ret v σ') (hi : Inv ρ σ w) (hg : GR ρ G) (hx : VRs ρ args xs.toList) (hl : ρ b = some l)
    (rl : Option Nat) (m : Nat) {R : Ending → World → Prop} (hR : ∀ (ρ' : Ren) (w' : World) (x : Value), Inv ρ' σ' w' → Stp ρ σ w ρ' σ' w' → VR ρ' v x → R (.returned x) w') :
    ∃ f tmps assign body, (Instr.yield l.blk xs).run P w = .ok (.round l.blk f tmps assign body) w ∧ RoundIn (fenc rl) m P l.blk f tmps assign body w R := by
  unfold roundX at h
  cases hb : σ.m.get b with
  | none => rw [hb] at h; cases h
  | some o =>
  rw [hb] at h
  cases o with
  | loop state pending tmps n params assign body df =>
    dsimp only at h
    cases hp : putAll n params args tmps with
    | none => rw [hp] at h; cases h
    | some t =>
    rw [hp] at h
    dsimp only at h
    obtain ⟨x, hh, fn, tmps', l', rfl, hdf, htm⟩ := hi.obj b _ l hb hl
    obtain ⟨hlen, ht⟩ := putAll_sound params args tmps t tmps' xs.toList hp htm hx
    refine ⟨fn, _, assign, body, run_yield hh (by simpa using hlen.symm), ?_⟩
    have hfold : ((params.toArray.zip xs).foldl (fun tmps (t, a) => tmps.setIfInBounds t a) tmps') = (params.zip xs.toList).foldl (fun tmps (t, a) => tmps.setIfInBounds t a) tmps' := by
      rw [← Array.foldl_toList, Array.toList_zip]
    refine roundIn_of_wpIn (fenc_fn rl _) ?_
    rw [fenc_in]
    dsimp only
    rw [hfold]
    cases hc : ih assign t n [] (some b) σ with
    | err k => rw [hc] at h; cases h
    | ok e t₁ d₁ σ₁ =>
    rw [hc] at h
    cases e with
    | normal =>
      cases d₁ with
      | nil =>
        dsimp only at h
        refine hS assign t n [] (some b) σ _ t₁ [] σ₁ hc ρ w _ (some l.blk) m _ hi hg ht rfl ⟨l, hl, rfl⟩ fun ρ₁ w₁ a₁ hi₁ st₁ ht₁ hd₁ => ?_
        have hl₁ := st₁.le hi b l hl
        have hg₁ := hg.mono (st₁.le hi)
        show ∃ w₂, _
        cases hb₁ : σ₁.m.get b with
        | none => rw [hb₁] at h; cases h
        | some o₁ =>
        rw [hb₁] at h
        cases o₁ with
        | loop state₁ p₁ tmps₁ n₁ params₁ assign₁ body₁ df₁ =>
          cases state₁ with
          | ready =>
            dsimp only at h
            obtain ⟨x₁, hh₁, fn₁, tmps₁', l₁', rfl, hdf₁, htm₁⟩ := hi₁.obj b _ l hb₁ hl₁
            obtain ⟨inv₂, st₂⟩ := hi₁.putObj (o' := .loop .busy p₁ tmps₁ n₁ params₁ assign₁ body₁ df₁) hb₁ hl₁ rfl rfl (x := .loop { state := .busy, pending := p₁, fn := fn₁, tmps := tmps₁', params := params₁.toArray, assign := assign₁, body := body₁, defers := l₁'.blk }) ⟨fn₁, tmps₁', l₁', rfl, hdf₁, htm₁⟩
            refine ⟨_, run_beginRound hh₁ rfl, ?_⟩
            cases hc₂ : ih body t₁ n [] (some b) (σ₁.setObj b (.loop .busy p₁ tmps₁ n₁ params₁ assign₁ body₁ df₁)) with
            | err k => rw [hc₂] at h; cases h
            | ok e₂ t₂ d₂ σ₂ =>
            rw [hc₂] at h
            cases d₂ with
            | cons _ _ => cases h
            | nil =>
            dsimp only at h
            refine hS body t₁ n [] (some b) _ e₂ t₂ [] σ₂ hc₂ ρ₁ _ a₁ (some l.blk) m _ inv₂ hg₁ ht₁ hd₁ ⟨l, hl₁, rfl⟩ fun ρ₃ w₃ a₃ hi₃ st₃ ht₃ hd₃ => ?_
            have hl₃ := st₃.le inv₂ b l hl₁
            cases hb₃ : σ₂.m.get b with
            | none => rw [hb₃] at h; cases h
            | some o₃ =>
            rw [hb₃] at h
            cases o₃ with
            | loop state₃ p₃ tmps₃ n₃ params₃ assign₃ body₃ df₃ =>
              dsimp only at h
              cases h
              obtain ⟨x₃, hh₃, fn₃, tmps₃', l₃', rfl, hdf₃, htm₃⟩ := hi₃.obj b _ l hb₃ hl₃
              have hst : (if (jumpOf e₂).isNone then LoopState.ready else .done) = stateOf e₂ := by cases e₂ <;> rfl
              obtain ⟨inv₄, st₄⟩ := hi₃.putObj (o' := .loop (stateOf e₂) (jumpOf e₂) tmps₃ n₃ params₃ assign₃ body₃ df₃) hb₃ hl₃ rfl rfl
                (x := .loop { state := stateOf e₂, pending := jumpOf e₂, fn := fn₃, tmps := tmps₃', params := params₃.toArray, assign := assign₃, body := body₃, defers := l₃'.blk }) ⟨fn₃, tmps₃', l₃', rfl, hdf₃, htm₃⟩
              refine round_post ⟨.bool (wentOn e₂), _, ?_, hR ρ₃ _ _ inv₄ (((st₁.trans st₂).trans st₃).trans st₄) (by simp only [VR])⟩
              rw [run_endRound _ hh₃, jump_none]
              have hst' : (if wentOn e₂ = true then LoopState.ready else .done) = stateOf e₂ := by rw [← jump_none]; exact hst
              rw [hst']
            | _ => cases h
          | _ => cases h
        | _ => cases h
      | cons _ _ => cases h
    | _ => cases h
  | _ => cases h

/-- An operation's effect. -/
theorem eff_sound {ih : IhC} (hS : Sound P G ih) {o : Oper} {r : HR} {res : Result Next} {v : AV} {σ' : AHeap} (hi : Inv ρ σ w) (hg : GR ρ G) (ho : HOut P ρ σ w r res) (h : effX P ih r = .ret v σ') (rl : Option Nat) (m : Nat) {a : Act} {next : Act → World → Prop} {Q : Exit → Act → World → Prop}
    (hn : ∀ (ρ' : Ren) (w' : World) (x : Value), Inv ρ' σ' w' → Stp ρ σ w ρ' σ' w' → VR ρ' v x → next (a.put o.dst x) w') : o.uponIn (fenc rl) m P a next Q res := by
  cases ho with
  | val hv hi' st =>
    cases h
    rw [Oper.uponIn_value]
    exact hn _ _ _ hi' st hv
  | skip hi' st =>
    cases h
    rw [Oper.uponIn_skip]
    exact hn _ _ _ hi' st VR_unit
  | enter hv =>
    rw [Oper.uponIn_enter]
    exact ⟨fenc_deep rl m, call_sound hS h hi hg hv rl _ fun ρ' w' x i s q => hn ρ' w' x i s q⟩
  | round hv hl hr =>
    subst hr
    obtain ⟨f, tmps, assign, body, h1, h2⟩ := round_sound hS h hi hg hv hl rl (m - 1) (R := fun
      | .returned v, w'' => next (a.put o.dst v) w''
      | .panicked chain, w'' => Q (.panic chain) a w''
      | .outgrown, _ => LetsOut Q) (fun ρ' w' x i s q => hn ρ' w' x i s q)
    rw [h1, Oper.uponIn_round]
    exact ⟨fenc_deep rl m, h2⟩

/-- An operation, whatever its kind. -/
theorem op_sound {ev : Operand → Option AV} {f : Operand → Value} {o : Oper} {r : HR} (hi : Inv ρ σ w) (hE : ER ρ ev f o.op) (h : opX P ev σ o.op = r) (hne : ∀ n, r ≠ .err n) : HOut P ρ σ w r ((execOp f o).run P w) := by
  subst h
  unfold opX at hne ⊢
  cases hk : kindOf P o.op with
  | pure =>
    rw [hk] at hne
    dsimp only at hne ⊢
    cases hp : pureA P ev o.op with
    | none => rw [hp] at hne; exact absurd rfl (hne 1)
    | some v =>
      obtain ⟨x, hx, hv⟩ := pure_sound (P := P) (w := w) hE hp
      rw [hx]
      exact .val hv hi (Stp.refl ρ σ w)
  | read =>
    rw [hk] at hne
    dsimp only at hne ⊢
    cases hp : readA P ev σ o.op with
    | none => rw [hp] at hne; exact absurd rfl (hne 2)
    | some v =>
      obtain ⟨x, hx, hv⟩ := read_sound (P := P) hi hE hp
      rw [hx]
      exact .val hv hi (Stp.refl ρ σ w)
  | alloc =>
    rw [hk] at hne
    dsimp only at hne ⊢
    cases hp : allocA P ev o.op with
    | none => rw [hp] at hne; exact absurd rfl (hne 3)
    | some p =>
      obtain ⟨ob, mk⟩ := p
      obtain ⟨x, ob', n, hx, hro, hob, hv⟩ := alloc_sound (P := P) (w := w) hE hp
      obtain ⟨inv, st⟩ := hi.alloc (l := ⟨w.heap.size, 0, n⟩) rfl hob
      rw [hx]
      exact .val (hv _ _ (Ren.with_same _ _ _)) inv st
  | heavy =>
    rw [hk] at hne
    exact heavy_sound hi hE rfl hne

theorem op_no_defer {ev : Operand → Option AV} {o : Oper} (hne : ∀ n, opX P ev σ o.op ≠ .err n) (c : Call) : o.op ≠ .defer c := by
  intro e
  rw [e] at hne
  exact hne 16 rfl

theorem eff_not_err {ih : IhC} {r : HR} {v : AV} {σ' : AHeap} (h : effX P ih r = .ret v σ') (n : Nat) : r ≠ .err n := by
  intro e; subst e; cases h

/-- One operation, carried out. -/
theorem one_wpIn {ih : IhC} (hS : Sound P G ih) {ev : Operand → Option AV} {o : Oper} {a : Act} {v : AV} {σ' : AHeap} (hi : Inv ρ σ w) (hg : GR ρ G) (hE : ER ρ ev a.eval o.op) (h : effX P ih (opX P ev σ o.op) = .ret v σ') (rl : Option Nat) (m : Nat) {next : Act → World → Prop} {Q : Exit → Act → World → Prop}
    (hn : ∀ (ρ' : Ren) (w' : World) (x : Value), Inv ρ' σ' w' → Stp ρ σ w ρ' σ' w' → VR ρ' v x → next (a.put o.dst x) w') : o.wpIn (fenc rl) m P a w next Q := by
  have hne := eff_not_err h
  refine ⟨fun f _ => fenc_fn rl f, ?_⟩
  rw [Oper.semAt_eq _ _ _ (op_no_defer hne)]
  exact eff_sound hS hi hg (op_sound hi hE rfl hne) h rl m hn

theorem ops_sound {ih : IhC} (hS : Sound P G ih) {ops : Array Oper} {n m : Nat} {d : List DE} (rl : Option Nat) {Q : Exit → Act → World → Prop} {e : Ex} {t' : PT AV} {d' : List DE} {σ' : AHeap} :
    ∀ (l : List Oper) (i : Nat), ops.toList.drop i = l → ∀ (t : PT AV) (σ : AHeap) (ρ : Ren) (w : World) (a : Act), opsX P G ih ops n d l t σ = .ok e t' d' σ' → Inv ρ σ w → GR ρ G → TR ρ t n a.tmps → DR ρ d a.defers →
      (∀ (ρ' : Ren) (w' : World) (a' : Act), Inv ρ' σ' w' → Stp ρ σ w ρ' σ' w' → TR ρ' t' n a'.tmps → DR ρ' d' a'.defers → Q (exOf e) a' w') → wpOpsIn (fenc rl) m P ops Q (List.range' i l.length) a w
  | [], i, hl, t, σ, ρ, w, a, h, hi, hg, ht, hd, hQ => by
    have h' : CR.ok .normal t d σ = .ok e t' d' σ' := h
    cases h'
    exact hQ ρ w a hi (Stp.refl _ _ _) ht hd
  | o :: l, i, hl, t, σ, ρ, w, a, h, hi, hg, ht, hd, hQ => by
    have hoi : ops[i]? = some o := by
      rw [← Array.getElem?_toList]
      have : (ops.toList.drop i)[0]? = some o := by rw [hl]; rfl
      simpa using this
    have hl' : ops.toList.drop (i + 1) = l := by
      rw [← List.drop_drop, hl]; rfl
    have h' : oneX P G ih ops n o t σ (opsX P G ih ops n d l) = .ok e t' d' σ' := h
    unfold oneX at h'
    simp only [List.length_cons, List.range'_succ, wpOpsIn, hoi]
    cases hw : wantedA ops t o with
    | none => rw [hw] at h'; cases h'
    | some b =>
      rw [hw] at h'
      rw [wanted_sound hw ht]
      cases b with
      | false =>
        dsimp only at h'
        cases hp : putT t n o.dst unit with
        | none => rw [hp] at h'; cases h'
        | some t₁ =>
          rw [hp] at h'
          simp only [Bool.false_eq_true, if_false]
          exact ⟨fun f _ => fenc_fn rl f, ops_sound hS rl l (i + 1) hl' t₁ σ ρ w _ h' hi hg (ht.put hp VR_unit) (by rw [put_defers]; exact hd) hQ⟩
      | true =>
        dsimp only at h'
        cases he : effX P ih (opX P (evalT G t) σ o.op) with
        | err k => rw [he] at h'; cases h'
        | ret v σ₁ =>
          rw [he] at h'
          dsimp only at h'
          cases hp : putT t n o.dst v with
          | none => rw [hp] at h'; cases h'
          | some t₁ =>
            rw [hp] at h'
            simp only [if_true]
            refine one_wpIn hS hi hg (ER_of _ hg ht) he rl m fun ρ₁ w₁ x hi₁ st₁ hv => ?_
            have hle := st₁.le hi
            exact ops_sound hS rl l (i + 1) hl' t₁ σ₁ ρ₁ w₁ _ h' hi₁ (hg.mono hle) ((ht.mono hle).put hp hv) (by rw [put_defers]; exact hd.mono hle)
              fun ρ' w' a' i' s' => hQ ρ' w' a' i' (st₁.trans s')
end
end Go.Ev

/- Regions that draw their order: what the plan's checks say. -/
namespace Go.Ev

/-! The same value. -/
theorem beqP_eq : ∀ {p q : Pos}, beqA.beqP p q = true → p = q
  | .xH, .xH, _ => rfl
  | .xO p, .xO q, h => congrArg _ (beqP_eq (p := p) (q := q) h)
  | .xI p, .xI q, h => congrArg _ (beqP_eq (p := p) (q := q) h)
  | .xH, .xO _, h => by cases h
  | .xH, .xI _, h => by cases h
  | .xO _, .xH, h => by cases h
  | .xO _, .xI _, h => by cases h
  | .xI _, .xH, h => by cases h
  | .xI _, .xO _, h => by cases h
theorem beqC_eq {c d : Cap} (h : beqA.beqC c d = true) : c = d := by
  unfold beqA.beqC at h
  split at h
  · rw [Nat.eq_of_beq_eq_true h]
  · rw [Nat.eq_of_beq_eq_true h]
  · cases h
theorem beq1_eq {x y : AV} (h : beqA.beq1 x y = true) : x = y := by
  unfold beqA.beq1 at h
  split at h
  · rw [cond_beq] at h; rw [eq_of_beq h]
  · rw [Bool.and_eq_true, eqI_eq, decide_eq_true_eq] at h; rw [eqK_eq h.1, h.2]
  · rw [eqS_eq, decide_eq_true_eq] at h; rw [h]
  · rfl
  · rw [Bool.and_eq_true] at h; rw [beqP_eq h.1, Nat.eq_of_beq_eq_true h.2]
  · rfl
  · simp only [Bool.and_eq_true] at h; rw [beqP_eq h.1.1.1, Nat.eq_of_beq_eq_true h.1.1.2, Nat.eq_of_beq_eq_true h.1.2, beqC_eq h.2]
  · rfl
  · rw [beqP_eq h]
  · rfl
  · rfl
  · rw [Nat.eq_of_beq_eq_true h]
  · simp only [Bool.and_eq_true] at h; rw [Nat.eq_of_beq_eq_true h.1.1, beqP_eq h.1.2, Nat.eq_of_beq_eq_true h.2]
  · cases h
theorem beqL_eq : ∀ {xs ys : List AV}, beqA.beqL xs ys = true → xs = ys
  | [], [], _ => rfl
  | [], _ :: _, h => by cases h
  | _ :: _, [], h => by cases h
  | x :: xs, y :: ys, h => by
    have h' : (bif beqA.beq1 x y then beqA.beqL xs ys else false) = true := h
    rw [ite_cond] at h'
    split at h'
    · rename_i hb; rw [beq1_eq hb, beqL_eq h']
    · cases h'
theorem beqA_eq {x y : AV} (h : beqA x y = true) : x = y := by
  unfold beqA at h
  split at h
  · rw [beqL_eq h]
  · exact beq1_eq h

/-! Reads stay where what they look at stays. -/
theorem readA_ext {P : Program} {ev : Operand → Option AV} {σ σ' : AHeap} {op : Op} {v : AV} (he : ∀ b o, σ.m.get b = some o → σ'.m.get b = some o) (h : readA P ev σ op = some v) : readA P ev σ' op = some v := by
  cases op with
  | load t x =>
    simp only [readA] at h ⊢
    cases hx : ev x with
    | none => rw [hx] at h; cases h
    | some u =>
      rw [hx] at h
      cases u with
      | ptr b off =>
        dsimp only at h ⊢
        cases hb : σ.m.get b with
        | none => rw [hb] at h; cases h
        | some o => rw [hb] at h; rw [he b o hb]; exact h
      | _ => cases h
  | lookup t x i ok =>
    simp only [readA] at h ⊢
    split at h
    · rename_i kt et k hu hik
      cases hx : ev x with
      | none => rw [hx] at h; dsimp only at h; rw [ite_cond] at h; split at h <;> cases h
      | some u =>
        rw [hx] at h
        cases u with
        | nilMap => simpa only [hu, hik] using h
        | map b =>
          dsimp only at h ⊢
          cases hb : σ.m.get b with
          | none => rw [hb] at h; dsimp only at h; rw [ite_cond] at h; split at h <;> cases h
          | some o => rw [hb] at h; rw [he b o hb]; simpa only [hu, hik] using h
        | _ => dsimp only at h; rw [ite_cond] at h; split at h <;> cases h
    · cases h
  | call c =>
    simp only [readA] at h ⊢
    split at h
    · rename_i hcal
      split at h
      · rename_i u1 u2 t x e1 e2
        split at h
        · rename_i u3 u4 kt et b hu hx
          cases hb : σ.m.get b with
          | none => rw [hb] at h; cases h
          | some o => rw [hb] at h; rw [he b o hb]; exact h
        · exact h
        · cases h
      · cases h
    · cases h
  | _ => exact h

/-! The checks. -/
theorem waits_iff {ops : Array Oper} {i j : Nat} : waits ops i j = true ↔ ∃ o, ops[i]? = some o ∧ ∃ e ∈ o.after, Region.binds .any e = true ∧ e.on = j := by
  unfold waits
  cases h : ops[i]? with
  | none => simp
  | some o =>
    simp only [Option.map_some, Option.getD_some, Option.some.injEq, exists_eq_left', Bool.and_eq_true, beq_iff_eq, Array.any_iff_exists]
    constructor
    · rintro ⟨q, hq, _, _, h1⟩; exact ⟨_, Array.getElem_mem hq, h1⟩
    · rintro ⟨e, he, h1⟩
      obtain ⟨q, hq, rfl⟩ := Array.getElem_of_mem he
      exact ⟨q, hq, Nat.zero_le _, hq, h1⟩

structure Shape (P : Program) (ops : Array Oper) (A : Array Nat) : Prop where
  dep : ∀ i j, waits ops i j = true → j < ops.size
  anc : ∀ i j, i < ops.size → j < ops.size → anc A i j = true → waits ops i j = true ∨ ∃ d, waits ops i d = true ∧ Ev.anc A d j = true
  uniq : ∀ i j k, dstOf ops i = some k → dstOf ops j = some k → i = j
  look : ∀ (i : Nat) (o : Oper) (j k : Nat), ops[i]? = some o → dstOf ops j = some k → k ∈ slotsOf ops o → Ev.anc A i j = true ∨ (looksMem P ops i = false ∧ (j = i ∨ Ev.anc A j i = true))
  dst : ∀ (i : Nat) (o : Oper), ops[i]? = some o → looksMem P ops i = true → ∃ k, o.dst = some k

theorem dstOf_lt {ops : Array Oper} {i k : Nat} (h : dstOf ops i = some k) : i < ops.size := by
  unfold dstOf at h
  cases ho : ops[i]? with
  | none => rw [ho] at h; cases h
  | some o => exact (Array.getElem?_eq_some_iff.1 ho).1
theorem dstOf_eq {ops : Array Oper} {i : Nat} {o : Oper} (h : ops[i]? = some o) : dstOf ops i = o.dst := by simp [dstOf, h]

theorem shape_of {P : Program} {ops : Array Oper} {A : Array Nat} (h : shapeOK P ops A = true) : Shape P ops A := by
  unfold shapeOK at h
  rw [List.all_eq_true] at h
  have key : ∀ i o, ops[i]? = some o → (looksMem P ops i = true → o.dst.isSome = true) ∧ (∀ e ∈ o.after, Region.binds .any e = true → e.on < ops.size) ∧
      (∀ j, j < ops.size → Ev.anc A i j = true → waits ops i j = true ∨ ∃ d, waits ops i d = true ∧ Ev.anc A d j = true) ∧
      (∀ j, j < ops.size → ∀ k, dstOf ops j = some k → (j ≠ i → o.dst ≠ some k) ∧ (k ∈ slotsOf ops o → Ev.anc A i j = true ∨ (looksMem P ops i = false ∧ (j = i ∨ Ev.anc A j i = true)))) := by
    intro i o ho
    have := h i (List.mem_range.2 (Array.getElem?_eq_some_iff.1 ho).1)
    rw [ho] at this
    simp only [Bool.and_eq_true] at this
    obtain ⟨⟨⟨h1, h2⟩, h3⟩, h4⟩ := this
    refine ⟨fun hl => ?_, fun e he hb => ?_, fun j hj ha => ?_, fun j hj k hk => ?_⟩
    · rw [hl] at h1; simpa using h1
    · rw [Array.all_eq_true_iff_forall_mem] at h2
      have := h2 e he
      rw [hb] at this
      have this : e.on + 1 ≤ ops.size := by simpa [Nat.blt] using this
      omega
    · rw [List.all_eq_true] at h3
      have := h3 j (List.mem_range.2 hj)
      rw [ha] at this
      simp only [Bool.not_true, Bool.false_or, Bool.or_eq_true, List.any_eq_true, Bool.and_eq_true] at this
      rcases this with h' | ⟨d, _, h', h''⟩
      · exact .inl h'
      · exact .inr ⟨d, h', h''⟩
    · rw [List.all_eq_true] at h4
      have := h4 j (List.mem_range.2 hj)
      rw [hk] at this
      simp only [Bool.and_eq_true, Bool.or_eq_true] at this
      obtain ⟨g1, g2⟩ := this
      refine ⟨fun hne heq => ?_, fun hs => ?_⟩
      · rcases g1 with g1 | g1
        · exact hne (by simpa using g1)
        · simp [heq] at g1
      · rcases g2 with (g2 | g2) | g2
        · simp [hs] at g2
        · exact .inl g2
        · refine .inr ⟨by simpa using g2.1, ?_⟩
          rcases g2.2 with g | g
          · exact .inl (by simpa using g)
          · exact .inr g
  refine ⟨fun i j hw => ?_, fun i j hi hj ha => ?_, fun i j k hi hj => ?_, fun i o j k ho hj hk => ?_, fun i o ho hl => ?_⟩
  · obtain ⟨o, ho, e, he, hb, rfl⟩ := waits_iff.1 hw
    exact (key i o ho).2.1 e he hb
  · exact (key i _ (Array.getElem?_eq_getElem hi)).2.2.1 j hj ha
  · have hlt := dstOf_lt hi
    have ho : ops[i]? = some ops[i] := Array.getElem?_eq_getElem hlt
    by_cases e : j = i
    · exact e.symm
    · exact absurd (by rw [← dstOf_eq ho]; exact hi) (((key i _ ho).2.2.2 j (dstOf_lt hj) k hj).1 e)
  · exact ((key i o ho).2.2.2 j (dstOf_lt hj) k hj).2 hk
  · exact Option.isSome_iff_exists.1 ((key i o ho).1 hl)

/-- The order in which the operations were taken. -/
def Ord (ops : Array Oper) : List Nat → Prop
  | [] => True
  | i :: r => (∀ j, waits ops i j = true → j ∈ r) ∧ Ord ops r

structure PlanHead (P : Program) (ops : Array Oper) (A : Array Nat) (i : Nat) (rc : List Nat) (done : List Nat) : Prop where
  lt : i < ops.size
  new : i ∉ done
  dep : ∀ j, waits ops i j = true → j ∈ done
  again : isHeavy P ops i = true → ∀ j ∈ done, looksMem P ops j = true → anc A i j = true ∨ j ∈ rc
  alone : isHeavy P ops i = true → ∀ j, j < ops.size → j ∉ done → j ≠ i → ∃ e, waits ops j e = true ∧ e ∉ done

theorem plan_head {P : Program} {ops : Array Oper} {A : Array Nat} (hs : Shape P ops A) {i : Nat} {rc : List Nat} {l : List (Nat × List Nat)} {done : List Nat} (hd : ∀ j ∈ done, j < ops.size) (h : planOK P ops A ((i, rc) :: l) done = true) :
    PlanHead P ops A i rc done ∧ planOK P ops A l (i :: done) = true := by
  simp only [planOK, Bool.and_eq_true] at h
  obtain ⟨⟨⟨⟨h1, h2⟩, h3⟩, h4⟩, h5⟩ := h
  have h1' : i + 1 ≤ ops.size := by simpa [Nat.blt] using h1
  refine ⟨⟨by omega, by simpa using h2, fun j hw => ?_, fun hh j hj hl => ?_, fun hh j hj hn hne => ?_⟩, h5⟩
  · rw [List.all_eq_true] at h3
    have := h3 j (List.mem_range.2 (hs.dep i j hw))
    rw [hw] at this
    simpa using this
  · rw [hh, Bool.not_true, Bool.false_or, List.all_eq_true] at h4
    have := h4 j (List.mem_range.2 (hd j hj))
    have hc : done.contains j = true := by simpa using hj
    rw [hc, hl] at this
    simpa using this
  · rw [hh, Bool.not_true, Bool.false_or, List.all_eq_true] at h4
    have := h4 j (List.mem_range.2 hj)
    have hc : done.contains j = false := by simpa using hn
    rw [hc] at this
    simp only [cond_false, Bool.or_eq_true, List.any_eq_true, Bool.and_eq_true] at this
    rcases this with g | ⟨e, _, g1, g2⟩
    · exact absurd (by simpa using g) hne
    · exact ⟨e, g1, by simpa using g2⟩
end Go.Ev

/- Regions that draw their order: every order comes to the plan's. -/
namespace Go.Ev

def Li (listed : Array Bool) (i : Nat) : Prop := listed.getD i false = true
theorem Li.lt {listed : Array Bool} {i : Nat} (h : Li listed i) : i < listed.size := by
  unfold Li at h
  rcases Nat.lt_or_ge i listed.size with h' | h'
  · exact h'
  · simp [Array.getD_eq_getD_getElem?, Array.getElem?_eq_none h'] at h
theorem not_Li {listed : Array Bool} {i : Nat} (hi : i < listed.size) : listed.getD i true = false ↔ ¬ Li listed i := by
  simp [Li, Array.getD_eq_getD_getElem?, hi]
theorem Li_set {listed : Array Bool} {i j : Nat} (hi : i < listed.size) : Li (listed.setIfInBounds i true) j ↔ j = i ∨ Li listed j := by
  unfold Li
  simp only [Array.getD_eq_getD_getElem?, Array.getElem?_setIfInBounds]
  by_cases e : i = j
  · subst e; simp [hi]
  · simp [e, Ne.symm e]

def blk : AV → Option Pos
  | .ptr b _ => some b
  | .slice b _ _ _ => some b
  | .map b => some b
  | _ => none
theorem blk_of (mk : Mk) (b : Pos) : blk (mk.of b) = some b := by cases mk <;> rfl

/-- What an operation that the plan has taken, and the machine not yet, will come to. -/
def PendV (P : Program) (G : Nat) (t : PT AV) (σ : AHeap) (ρ : Ren) (lo : Nat) (ti : PT AV) (o : Oper) : Prop :=
  match kindOf P o.op with
  | .pure => ∃ v, pureA P (evalT G ti) o.op = some v ∧ ∀ k, o.dst = some k → t.get (posOf k) = some v
  | .read => ∃ v, readA P (evalT G ti) σ o.op = some v ∧ ∀ k, o.dst = some k → t.get (posOf k) = some v
  | .alloc => ∃ ob mk b, allocA P (evalT G ti) o.op = some (ob, mk) ∧ σ.m.get b = some ob ∧ ρ b = none ∧ lo ≤ b.num ∧ b.num < σ.next.num ∧ ∀ k, o.dst = some k → t.get (posOf k) = some (mk.of b)
  | .heavy => False
def Pend (P : Program) (G : Nat) (ops : Array Oper) (A : Array Nat) (t₀ t : PT AV) (σ : AHeap) (ρ : Ren) (lo : Nat) (i : Nat) : Prop :=
  ∃ o ti, ops[i]? = some o ∧
    (∀ k ∈ slotsOf ops o, ∀ j, anc A i j = true → dstOf ops j = some k → ti.get (posOf k) = t.get (posOf k)) ∧
    (∀ k ∈ slotsOf ops o, (∀ j, dstOf ops j = some k → anc A i j = false) → ti.get (posOf k) = t₀.get (posOf k)) ∧
    ∃ bw, wantedA ops ti o = some bw ∧ (bw = false → ∀ k, o.dst = some k → t.get (posOf k) = some unit) ∧ (bw = true → PendV P G t σ ρ lo ti o)

section
variable {P : Program} {G : Nat} {ops : Array Oper} {A : Array Nat} {t₀ t t₁ : PT AV} {σ σ₁ : AHeap} {ρ ρ₁ : Ren} {lo i : Nat}

theorem guard_slot {o : Oper} {j : Nat} {want : Bool} {k : Nat} (hg : o.guard = some (j, want)) (hk : (ops[j]?).bind (·.dst) = some k) : k ∈ slotsOf ops o := by
  unfold slotsOf
  rw [hg]
  simp [hk]
theorem operand_slot {o : Oper} {k : Nat} (h : Operand.tmp k ∈ o.op.operands) : k ∈ slotsOf ops o := by
  unfold slotsOf
  refine List.mem_append_left _ (List.mem_filterMap.2 ⟨.tmp k, by simpa using h, rfl⟩)
theorem wantedA_congr {o : Oper} {ti tj : PT AV} (h : ∀ k ∈ slotsOf ops o, ti.get (posOf k) = tj.get (posOf k)) : wantedA ops ti o = wantedA ops tj o := by
  unfold wantedA
  cases hg : o.guard with
  | none => rfl
  | some jw =>
    obtain ⟨j, want⟩ := jw
    dsimp only
    cases hk : (ops[j]?).bind (·.dst) with
    | none => rfl
    | some k => dsimp only; rw [h k (guard_slot hg hk)]

theorem Pend.agree (hp : Pend P G ops A t₀ t σ ρ lo i) (h : ∀ k, (dstOf ops i = some k ∨ ∃ j, anc A i j = true ∧ dstOf ops j = some k) → t₁.get (posOf k) = t.get (posOf k)) : Pend P G ops A t₀ t₁ σ ρ lo i := by
  obtain ⟨o, ti, ho, h1, h2, bw, h3, h4, h5⟩ := hp
  have hd : ∀ k, o.dst = some k → t₁.get (posOf k) = t.get (posOf k) := fun k hk => h k (.inl (by rw [dstOf_eq ho]; exact hk))
  refine ⟨o, ti, ho, fun k hk j ha hj => (h1 k hk j ha hj).trans (h k (.inr ⟨j, ha, hj⟩)).symm, h2, bw, h3, fun hb k hk => (hd k hk).trans (h4 hb k hk), fun hb => ?_⟩
  have := h5 hb
  unfold PendV at this ⊢
  split at this
  · obtain ⟨v, g1, g2⟩ := this; exact ⟨v, g1, fun k hk => (hd k hk).trans (g2 k hk)⟩
  · obtain ⟨v, g1, g2⟩ := this; exact ⟨v, g1, fun k hk => (hd k hk).trans (g2 k hk)⟩
  · obtain ⟨ob, mk, b, g1, g2, g3, g4, g5, g6⟩ := this; exact ⟨ob, mk, b, g1, g2, g3, g4, g5, fun k hk => (hd k hk).trans (g6 k hk)⟩
  · exact this

theorem Pend.grow (hp : Pend P G ops A t₀ t σ ρ lo i) (h : ∀ b o, σ.m.get b = some o → σ₁.m.get b = some o) (hn : σ.next.num ≤ σ₁.next.num) : Pend P G ops A t₀ t σ₁ ρ lo i := by
  obtain ⟨o, ti, ho, h1, h2, bw, h3, h4, h5⟩ := hp
  refine ⟨o, ti, ho, h1, h2, bw, h3, h4, fun hb => ?_⟩
  have := h5 hb
  unfold PendV at this ⊢
  split at this
  · exact this
  · obtain ⟨v, g1, g2⟩ := this; exact ⟨v, readA_ext h g1, g2⟩
  · obtain ⟨ob, mk, b, g1, g2, g3, g4, g5, g6⟩ := this; exact ⟨ob, mk, b, g1, h b ob g2, g3, g4, by omega, g6⟩
  · exact this

theorem Pend.ren (hp : Pend P G ops A t₀ t σ ρ lo i) (hs : Shape P ops A) (h : ∀ b, (∃ o k v, ops[i]? = some o ∧ kindOf P o.op = .alloc ∧ dstOf ops i = some k ∧ t.get (posOf k) = some v ∧ blk v = some b) → ρ b = none → ρ₁ b = none) : Pend P G ops A t₀ t σ ρ₁ lo i := by
  obtain ⟨o, ti, ho, h1, h2, bw, h3, h4, h5⟩ := hp
  refine ⟨o, ti, ho, h1, h2, bw, h3, h4, fun hb => ?_⟩
  have := h5 hb
  unfold PendV at this ⊢
  split at this
  · exact this
  · exact this
  · rename_i hk
    obtain ⟨ob, mk, b, g1, g2, g3, g4, g5, g6⟩ := this
    obtain ⟨k, hkd⟩ := hs.dst i o ho (by simp [looksMem, ho, hk])
    exact ⟨ob, mk, b, g1, g2, h b ⟨o, k, _, ho, hk, by rw [dstOf_eq ho]; exact hkd, g6 k hkd, blk_of mk b⟩ g3, g4, g5, g6⟩
  · exact this

theorem Pend.again (hp : Pend P G ops A t₀ t σ ρ lo i) (hs : Shape P ops A) (h : ∀ k, (dstOf ops i = some k ∨ ∃ j, anc A i j = true ∧ dstOf ops j = some k) → t₁.get (posOf k) = t.get (posOf k))
    (h0 : ∀ k, (∀ j, dstOf ops j ≠ some k) → t₁.get (posOf k) = t₀.get (posOf k)) (hstill : looksMem P ops i = true → stillX P G ops t₁ σ₁ i = true)
    (hr : ∀ b : Pos, b.num < σ.next.num → ρ₁ b = ρ b) (hn : σ.next.num ≤ σ₁.next.num) : Pend P G ops A t₀ t₁ σ₁ ρ₁ lo i := by
  have hp₁ := hp.agree h
  obtain ⟨o, ti, ho, h1, h2, bw, h3, h4, h5⟩ := hp₁
  cases hb : bw with
  | false => exact ⟨o, ti, ho, h1, h2, bw, h3, h4, fun hb' => absurd hb' (by rw [hb]; simp)⟩
  | true =>
    have hv := h5 hb
    subst hb
    cases hk : kindOf P o.op with
    | pure =>
      refine ⟨o, ti, ho, h1, h2, true, h3, h4, fun _ => ?_⟩
      unfold PendV at hv ⊢
      rw [hk] at hv ⊢
      exact hv
    | heavy => unfold PendV at hv; rw [hk] at hv; exact hv.elim
    | read =>
      have hl : looksMem P ops i = true := by simp [looksMem, ho, hk]
      have hsl : ∀ k ∈ slotsOf ops o, t₁.get (posOf k) = ti.get (posOf k) := fun k hks => by
        by_cases hw : ∃ j, dstOf ops j = some k
        · obtain ⟨j, hj⟩ := hw
          rcases hs.look i o j k ho hj hks with ha | ⟨hno, _⟩
          · exact (h1 k hks j ha hj).symm
          · rw [hl] at hno; cases hno
        · rw [h0 k (fun j hj => hw ⟨j, hj⟩), h2 k hks (fun j hj => absurd ⟨j, hj⟩ hw)]
      have hst := hstill hl
      unfold stillX at hst
      rw [ho] at hst
      dsimp only at hst
      rw [wantedA_congr hsl, h3] at hst
      dsimp only at hst
      refine ⟨o, t₁, ho, fun _ _ _ _ _ => rfl, fun k hks hj => (hsl k hks).trans (h2 k hks hj), true, by rw [wantedA_congr hsl]; exact h3, fun h' => (by cases h'), fun _ => ?_⟩
      unfold PendV
      rw [hk]
      split at hst
      · rename_i k hkd
        split at hst
        · rename_i v hvk
          rw [hk] at hst
          dsimp only at hst
          split at hst
          · rename_i u hu
            have := beqA_eq hst
            subst this
            exact ⟨u, hu, fun k' hk' => by rw [hkd] at hk'; cases hk'; exact hvk⟩
          · cases hst
        · cases hst
      · cases hst
    | alloc =>
      have hl : looksMem P ops i = true := by simp [looksMem, ho, hk]
      have hsl : ∀ k ∈ slotsOf ops o, t₁.get (posOf k) = ti.get (posOf k) := fun k hks => by
        by_cases hw : ∃ j, dstOf ops j = some k
        · obtain ⟨j, hj⟩ := hw
          rcases hs.look i o j k ho hj hks with ha | ⟨hno, _⟩
          · exact (h1 k hks j ha hj).symm
          · rw [hl] at hno; cases hno
        · rw [h0 k (fun j hj => hw ⟨j, hj⟩), h2 k hks (fun j hj => absurd ⟨j, hj⟩ hw)]
      have hst := hstill hl
      unfold stillX at hst
      rw [ho] at hst
      dsimp only at hst
      rw [wantedA_congr hsl, h3] at hst
      dsimp only at hst
      refine ⟨o, t₁, ho, fun _ _ _ _ _ => rfl, fun k hks hj => (hsl k hks).trans (h2 k hks hj), true, by rw [wantedA_congr hsl]; exact h3, fun h' => (by cases h'), fun _ => ?_⟩
      unfold PendV at hv ⊢
      rw [hk] at hv ⊢
      dsimp only at hv ⊢
      obtain ⟨ob, mk, b, g1, g2, g3, g4, g5, g6⟩ := hv
      split at hst
      · rename_i k hkd
        have g6' := g6 k hkd
        rw [g6'] at hst
        dsimp only at hst
        rw [hk] at hst
        dsimp only at hst
        have hrb : ρ₁ b = none := by rw [hr b g5]; exact g3
        split at hst
        · rename_i cs e b' ha hvb
          split at hst
          · rename_i cs' e' hbb
            rw [Bool.and_eq_true] at hst
            have e1 := Nat.eq_of_beq_eq_true hst.1
            have e2 := beqL_eq hst.2
            subst e1; subst e2
            have hbb' : b' = b := by cases mk <;> simp [Mk.of] at hvb <;> exact hvb.symm
            have hmk : mk = .ptr := by cases mk <;> simp [Mk.of] at hvb <;> rfl
            subst hbb'; subst hmk
            exact ⟨_, _, b', ha, hbb, hrb, g4, by omega, g6⟩
          · cases hst
        · rename_i cs e n c b' n' c' ha hvb
          split at hst
          · rename_i cs' e' hbb
            simp only [Bool.and_eq_true] at hst
            have e1 := Nat.eq_of_beq_eq_true hst.1.1.1
            have e2 := beqL_eq hst.1.1.2
            have e3 := Nat.eq_of_beq_eq_true hst.1.2
            have e4 := Nat.eq_of_beq_eq_true hst.2
            subst e1; subst e2; subst e3; subst e4
            have hmk : b' = b ∧ mk = .slice n c := by cases mk <;> simp [Mk.of] at hvb <;> (obtain ⟨q1, q2, q3⟩ := hvb; subst q1; subst q2; subst q3; exact ⟨rfl, rfl⟩)
            obtain ⟨rfl, rfl⟩ := hmk
            exact ⟨_, _, b', ha, hbb, hrb, g4, by omega, g6⟩
          · cases hst
        · cases hst
      · cases hst
end

theorem putT_facts {t t₁ : PT AV} {n : Nat} {dst : Option Nat} {v : AV} (h : putT t n dst v = some t₁) :
    (∀ k, dst ≠ some k → t₁.get (posOf k) = t.get (posOf k)) ∧ (∀ k, dst = some k → k < n ∧ t₁.get (posOf k) = some v) := by
  cases dst with
  | none => cases h; exact ⟨fun _ _ => rfl, fun k hk => by cases hk⟩
  | some j =>
    obtain ⟨hj, rfl⟩ := putT_some h
    refine ⟨fun k hk => PT.get_put_other _ _ _ _ (fun e => hk (by rw [posOf_inj e])), fun k hk => ?_⟩
    cases hk
    exact ⟨hj, PT.get_put_same _ _ _⟩
theorem put_at {a : Act} {dst : Option Tmp} {x : Value} : (∀ k, dst ≠ some k → (a.put dst x).tmps.getD k undef = a.tmps.getD k undef) ∧ (∀ k, dst = some k → k < a.tmps.size → (a.put dst x).tmps.getD k undef = x) ∧ (a.put dst x).tmps.size = a.tmps.size := by
  cases dst with
  | none => exact ⟨fun _ _ => rfl, (fun k hk => by cases hk), rfl⟩
  | some j =>
    refine ⟨fun k hk => ?_, fun k hk hlt => ?_, by simp [Act.put]⟩
    · have : j ≠ k := fun e => hk (by rw [e])
      simp [Act.put, Array.getD_eq_getD_getElem?, Array.getElem?_setIfInBounds, this]
    · cases hk
      simp [Act.put, Array.getD_eq_getD_getElem?, Array.getElem?_setIfInBounds, hlt]
end Go.Ev

/- Regions that draw their order: the state between the plan and the machine. -/
namespace Go.Ev

theorem mem_cons_cases {α : Type} {x y : α} {l : List α} (h : x ∈ y :: l) : x = y ∨ x ∈ l := List.mem_cons.1 h

/-- The plan has taken 'done', and comes to 'fin' by l; the machine has taken what is listed. -/
structure J (P : Program) (G : Nat) (ih : IhC) (ops : Array Oper) (A : Array Nat) (n : Nat) (d : List DE) (fin : CR) (ρ₀ : Ren) (σ₀ : AHeap) (w₀ : World) (t₀ : PT AV)
    (l : List (Nat × List Nat)) (done : List Nat) (t : PT AV) (σ : AHeap) (listed : Array Bool) (ρ : Ren) (w : World) (a : Act) : Prop where
  run : planX P G ih ops n d l t σ = fin
  ok : planOK P ops A l done = true
  inv : Inv ρ σ w
  stp : Stp ρ₀ σ₀ w₀ ρ σ w
  dr : DR ρ d a.defers
  gr : GR ρ G
  tsz : a.tmps.size = n
  lsz : listed.size = ops.size
  bnd : ∀ i ∈ done, i < ops.size
  ord : Ord ops done
  sub : ∀ i, Li listed i → i ∈ done
  heavy : ∀ i ∈ done, isHeavy P ops i = true → Li listed i
  closed : ∀ i j, j < ops.size → Li listed i → anc A i j = true → Li listed j
  dclosed : ∀ i j, j < ops.size → i ∈ done → anc A i j = true → j ∈ done
  dlt : ∀ i ∈ done, ∀ k, dstOf ops i = some k → k < n
  slotS : ∀ i k v, Li listed i → dstOf ops i = some k → t.get (posOf k) = some v → VR ρ v (a.tmps.getD k undef)
  slot0 : ∀ k v, (∀ i, Li listed i → dstOf ops i ≠ some k) → t₀.get (posOf k) = some v → k < n ∧ VR ρ v (a.tmps.getD k undef)
  same : ∀ k, (∀ i ∈ done, dstOf ops i ≠ some k) → t.get (posOf k) = t₀.get (posOf k)
  pend : ∀ i ∈ done, ¬ Li listed i → Pend P G ops A t₀ t σ ρ σ₀.next.num i
  apart : ∀ i j o o' k k' v v' b, i ∈ done → j ∈ done → ¬ Li listed i → ¬ Li listed j → ops[i]? = some o → ops[j]? = some o' → kindOf P o.op = .alloc → kindOf P o'.op = .alloc →
    dstOf ops i = some k → dstOf ops j = some k' → t.get (posOf k) = some v → t.get (posOf k') = some v' → blk v = some b → blk v' = some b → i = j

section
variable {P : Program} {G : Nat} {ih : IhC} {ops : Array Oper} {A : Array Nat} {n : Nat} {d : List DE} {fin : CR} {ρ₀ : Ren} {σ₀ : AHeap} {w₀ : World} {t₀ : PT AV}
variable {l : List (Nat × List Nat)} {done : List Nat} {t : PT AV} {σ : AHeap} {listed : Array Bool} {ρ : Ren} {w : World} {a : Act}

theorem anc_done (hs : Shape P ops A) {i : Nat} (hi : i < ops.size) (hw : ∀ j, waits ops i j = true → j ∈ done) (hd : ∀ i j, j < ops.size → i ∈ done → anc A i j = true → j ∈ done) : ∀ j, j < ops.size → anc A i j = true → j ∈ done := fun j hj ha => by
  rcases hs.anc i j hi hj ha with h | ⟨q, h1, h2⟩
  · exact hw j h
  · exact hd q j hj (hw q h1) h2
theorem anc_listed (hs : Shape P ops A) {i : Nat} (hi : i < ops.size) (hw : ∀ j, waits ops i j = true → Li listed j) (hd : ∀ i j, j < ops.size → Li listed i → anc A i j = true → Li listed j) : ∀ j, j < ops.size → anc A i j = true → Li listed j := fun j hj ha => by
  rcases hs.anc i j hi hj ha with h | ⟨q, h1, h2⟩
  · exact hw j h
  · exact hd q j hj (hw q h1) h2

/-- The slots that the next operation of the plan looks at. -/
theorem J.head_slots (hs : Shape P ops A) (hj : J P G ih ops A n d fin ρ₀ σ₀ w₀ t₀ l done t σ listed ρ w a) {i : Nat} {o : Oper} (ho : ops[i]? = some o) (hn : i ∉ done) :
    ∀ k ∈ slotsOf ops o, (∀ j, dstOf ops j = some k → anc A i j = false) → t.get (posOf k) = t₀.get (posOf k) := fun k hk hno => by
  refine hj.same k fun j hjd hjk => ?_
  rcases hs.look i o j k ho hjk hk with h | ⟨_, h | h⟩
  · rw [hno j hjk] at h; cases h
  · subst h; exact hn hjd
  · exact hn (hj.dclosed j i (Array.getElem?_eq_some_iff.1 ho).1 hjd h)

/-- What an operation that is ready looks at. -/
theorem J.look (hs : Shape P ops A) (hj : J P G ih ops A n d fin ρ₀ σ₀ w₀ t₀ l done t σ listed ρ w a) {i : Nat} {o : Oper} {ti : PT AV} (ho : ops[i]? = some o) (hn : ¬ Li listed i) (hr : ∀ j, j < ops.size → anc A i j = true → Li listed j)
    (h1 : ∀ k ∈ slotsOf ops o, ∀ j, anc A i j = true → dstOf ops j = some k → ti.get (posOf k) = t.get (posOf k)) (h2 : ∀ k ∈ slotsOf ops o, (∀ j, dstOf ops j = some k → anc A i j = false) → ti.get (posOf k) = t₀.get (posOf k)) :
    ∀ k ∈ slotsOf ops o, ∀ v, ti.get (posOf k) = some v → k < n ∧ VR ρ v (a.tmps.getD k undef) := fun k hk v hv => by
  by_cases hw : ∃ j, dstOf ops j = some k ∧ anc A i j = true
  · obtain ⟨j, hjk, ha⟩ := hw
    have hL := hr j (dstOf_lt hjk) ha
    rw [h1 k hk j ha hjk] at hv
    exact ⟨hj.dlt j (hj.sub j hL) k hjk, hj.slotS j k v hL hjk hv⟩
  · have hno : ∀ j, dstOf ops j = some k → anc A i j = false := fun j hjk => by
      cases h : anc A i j with
      | false => rfl
      | true => exact absurd ⟨j, hjk, h⟩ hw
    rw [h2 k hk hno] at hv
    refine hj.slot0 k v (fun j hL hjk => ?_) hv
    rcases hs.look i o j k ho hjk hk with h | ⟨_, h | h⟩
    · rw [hno j hjk] at h; cases h
    · subst h; exact hn hL
    · exact hn (hj.closed j i (Array.getElem?_eq_some_iff.1 ho).1 hL h)

theorem look_ER {ti : PT AV} {o : Oper} (hg : GR ρ G) (h : ∀ k ∈ slotsOf ops o, ∀ v, ti.get (posOf k) = some v → k < n ∧ VR ρ v (a.tmps.getD k undef)) : ER ρ (evalT G ti) a.eval o.op := fun x hx v hv => by
  cases x with
  | tmp k => exact (h k (operand_slot hx) v hv).2
  | const c => exact eval_sound (t := .leaf) (n := a.tmps.size) hg ⟨rfl, fun k v hk => by rw [PT.get_leaf] at hk; cases hk⟩ hv
  | global g => exact eval_sound (t := .leaf) (n := a.tmps.size) hg ⟨rfl, fun k v hk => by rw [PT.get_leaf] at hk; cases hk⟩ hv
  | func f => exact eval_sound (t := .leaf) (n := a.tmps.size) hg ⟨rfl, fun k v hk => by rw [PT.get_leaf] at hk; cases hk⟩ hv
theorem look_wanted {ti : PT AV} {o : Oper} {b : Bool} (hsz : a.tmps.size = n) (h : ∀ k ∈ slotsOf ops o, ∀ v, ti.get (posOf k) = some v → k < n ∧ VR ρ v (a.tmps.getD k undef)) (hw : wantedA ops ti o = some b) : Region.wanted o (yielded ops a.tmps) = b :=
  wanted_at hw fun j want k hg hk v hv => by
    have := h k (guard_slot hg hk) v hv
    rw [hsz]; exact this

/-- The plan takes an operation that turns no memory; the machine does not yet. -/
theorem J.ahead (hs : Shape P ops A) {i : Nat} {rc : List Nat} (hj : J P G ih ops A n d fin ρ₀ σ₀ w₀ t₀ ((i, rc) :: l) done t σ listed ρ w a) (hl : isHeavy P ops i = false) {o : Oper} (ho : ops[i]? = some o) {v : AV} {t₁ : PT AV} {σ₁ : AHeap}
    (hp : putT t n o.dst v = some t₁) (hrun : planX P G ih ops n d l t₁ σ₁ = fin) (hinv : Inv ρ σ₁ w) (hst : Stp ρ σ w ρ σ₁ w) (hget : ∀ b o, σ.m.get b = some o → σ₁.m.get b = some o)
    (hblk : ∀ b, blk v = some b → kindOf P o.op = .alloc → σ.next.num ≤ b.num) (hpend : Pend P G ops A t₀ t₁ σ₁ ρ σ₀.next.num i) : J P G ih ops A n d fin ρ₀ σ₀ w₀ t₀ l (i :: done) t₁ σ₁ listed ρ w a := by
  obtain ⟨hh, hok⟩ := plan_head hs hj.bnd hj.ok
  obtain ⟨f1, f2⟩ := putT_facts hp
  have hdi : dstOf ops i = o.dst := dstOf_eq ho
  have hnL : ¬ Li listed i := fun h => hh.new (hj.sub i h)
  have hother : ∀ j ∈ done, ∀ k, dstOf ops j = some k → t₁.get (posOf k) = t.get (posOf k) := fun j hjd k hk => f1 k fun e => by
    have := hs.uniq i j k (by rw [hdi]; exact e) hk
    subst this; exact hh.new hjd
  have hpend' : ∀ j ∈ done, ¬ Li listed j → Pend P G ops A t₀ t₁ σ₁ ρ σ₀.next.num j := fun j hjd hjl => by
    refine ((hj.pend j hjd hjl).agree fun k hk => ?_).grow hget hst.next
    rcases hk with hk | ⟨q, hq, hk⟩
    · exact hother j hjd k hk
    · exact hother q (hj.dclosed j q (dstOf_lt hk) hjd hq) k hk
  have hfar : ∀ j o' k' v' b, j ∈ done → ¬ Li listed j → ops[j]? = some o' → kindOf P o'.op = .alloc → dstOf ops j = some k' → t₁.get (posOf k') = some v' → blk v' = some b → b.num < σ.next.num := fun j o' k' v' b hjd hjl ho' hk hd hv hb => by
    obtain ⟨o'', ti, e, _, _, bw, _, h4, h5⟩ := hj.pend j hjd hjl
    rw [ho'] at e; cases e
    rw [hother j hjd k' hd] at hv
    rw [dstOf_eq ho'] at hd
    cases bw with
    | false => rw [h4 rfl k' hd] at hv; cases hv; cases hb
    | true =>
      have := h5 rfl
      unfold PendV at this
      rw [hk] at this
      obtain ⟨ob, mk, b', g1, g2, g3, g4, g5, g6⟩ := this
      rw [g6 k' hd] at hv; cases hv
      rw [blk_of] at hb; cases hb
      exact g5
  refine ⟨hrun, hok, hinv, hj.stp.trans hst, hj.dr, hj.gr, hj.tsz, hj.lsz, fun j h => ?_, ⟨hh.dep, hj.ord⟩, fun j h => List.mem_cons_of_mem _ (hj.sub j h), fun j h hv => ?_, hj.closed, fun j q hq h ha => ?_, fun j h k hk => ?_, fun j k u hL hk hu => ?_, hj.slot0, fun k hk => ?_, fun j h hjl => ?_, ?_⟩
  · rcases mem_cons_cases h with rfl | h
    · exact hh.lt
    · exact hj.bnd j h
  · rcases mem_cons_cases h with rfl | h
    · rw [hl] at hv; cases hv
    · exact hj.heavy j h hv
  · rcases mem_cons_cases h with rfl | h
    · exact List.mem_cons_of_mem _ (anc_done hs hh.lt hh.dep hj.dclosed q hq ha)
    · exact List.mem_cons_of_mem _ (hj.dclosed j q hq h ha)
  · rcases mem_cons_cases h with rfl | h
    · exact (f2 k (by rw [← hdi]; exact hk)).1
    · exact hj.dlt j h k hk
  · rw [hother j (hj.sub j hL) k hk] at hu
    exact hj.slotS j k u hL hk hu
  · rw [f1 k (fun e => hk i (List.mem_cons_self ..) (by rw [hdi]; exact e))]
    exact hj.same k fun j h => hk j (List.mem_cons_of_mem _ h)
  · rcases mem_cons_cases h with rfl | h
    · exact hpend
    · exact hpend' j h hjl
  · intro j q o' o'' k k' u u' b h1 h2 h3 h4 h5 h6 h7 h8 h9 h10 h11 h12 h13 h14
    rcases mem_cons_cases h1 with rfl | m1 <;> rcases mem_cons_cases h2 with rfl | m2
    · rfl
    · rw [ho] at h5; cases h5
      have := hfar q o'' k' u' b m2 h4 h6 h8 h10 h12 h14
      have e := (f2 k (by rw [← hdi]; exact h9)).2
      rw [e] at h11; cases h11
      have := hblk b h13 h7
      omega
    · rw [ho] at h6; cases h6
      have := hfar j o' k u b m1 h3 h5 h7 h9 h11 h13
      have e := (f2 k' (by rw [← hdi]; exact h10)).2
      rw [e] at h12; cases h12
      have := hblk b h14 h8
      omega
    · rw [hother j m1 k h9] at h11
      rw [hother q m2 k' h10] at h12
      exact hj.apart j q o' o'' k k' u u' b m1 m2 h3 h4 h5 h6 h7 h8 h9 h10 h11 h12 h13 h14

/-- Abstractly a block is laid; the machine lays it later. -/
theorem Inv.ahead (hi : Inv ρ σ w) (ob : AObj) : Inv ρ (σ.alloc ob) w ∧ Stp ρ σ w ρ (σ.alloc ob) w ∧ ∀ b o, σ.m.get b = some o → (σ.alloc ob).m.get b = some o := by
  have hnone : ρ σ.next = none := (hi.fresh _ (Nat.le_refl _)).1
  have hget : ∀ b, b ≠ σ.next → (σ.alloc ob).m.get b = σ.m.get b := fun b hb => PT.get_put_other _ _ _ _ hb
  have back : ∀ b o l, (σ.alloc ob).m.get b = some o → ρ b = some l → σ.m.get b = some o := fun b o l h hl => by
    by_cases e : b = σ.next
    · subst e; rw [hnone] at hl; cases hl
    · rw [hget b e] at h; exact h
  refine ⟨⟨fun b hb => ?_, hi.blk, fun b o l h hl => hi.obj b o l (back b o l h hl) hl, fun b b' o o' l l' h1 h2 h3 h4 => hi.inj b b' o o' l l' (back b o l h1 h3) (back b' o' l' h2 h4) h3 h4⟩, ⟨fun _ _ => rfl, ?_, Nat.le_refl _, fun _ _ _ => rfl, ?_, rfl, rfl, rfl⟩, fun b o h => ?_⟩
  · have hb' : σ.next.num + 1 ≤ b.num := by simpa [AHeap.alloc, Pos.num_succ] using hb
    have hne : b ≠ σ.next := fun e => by subst e; omega
    rw [hget b hne]
    exact hi.fresh b (by omega)
  · simp [AHeap.alloc, Pos.num_succ]
  · rintro r ⟨b, o, l, h1, h2, h3, rfl⟩ _
    exact ⟨b, o, l, back b o l h1 h3, h2, h3, rfl⟩
  · by_cases e : b = σ.next
    · subst e; rw [(hi.fresh _ (Nat.le_refl _)).2] at h; cases h
    · rw [hget b e]; exact h
theorem AHeap.get_alloc (σ : AHeap) (ob : AObj) : (σ.alloc ob).m.get σ.next = some ob := PT.get_put_same _ _ _

/-- The plan's next operation turns no memory: the plan takes it. -/
theorem J.light (hs : Shape P ops A) {i : Nat} {rc : List Nat} (hj : J P G ih ops A n d fin ρ₀ σ₀ w₀ t₀ ((i, rc) :: l) done t σ listed ρ w a) (hl : isHeavy P ops i = false) (hfin : ∀ k, fin ≠ .err k) :
    ∃ t₁ σ₁, J P G ih ops A n d fin ρ₀ σ₀ w₀ t₀ l (i :: done) t₁ σ₁ listed ρ w a := by
  obtain ⟨hh, hok⟩ := plan_head hs hj.bnd hj.ok
  obtain ⟨o, ho⟩ : ∃ o, ops[i]? = some o := ⟨ops[i]'hh.lt, Array.getElem?_eq_getElem hh.lt⟩
  have hrun : (match ops[i]? with
      | some o => oneX P G ih ops n o t σ (fun t' σ' => bif stillAll P G ops t' σ' rc then planX P G ih ops n d l t' σ' else .err 86)
      | none => .err 87) = fin := hj.run
  rw [ho] at hrun
  dsimp only at hrun
  have hhead := hj.head_slots hs ho hh.new
  have hcont : ∀ t₁ σ₁, (bif stillAll P G ops t₁ σ₁ rc then planX P G ih ops n d l t₁ σ₁ else .err 86) = fin → planX P G ih ops n d l t₁ σ₁ = fin := fun t₁ σ₁ h => by
    rw [ite_cond] at h
    split at h
    · exact h
    · exact absurd h.symm (hfin 86)
  -- the slots that it looks at are not turned by its own result
  have hanc : ∀ {v : AV} {t₁ : PT AV}, putT t n o.dst v = some t₁ → ∀ k ∈ slotsOf ops o, ∀ j, anc A i j = true → dstOf ops j = some k → t.get (posOf k) = t₁.get (posOf k) := fun hp k hk j ha hjk => by
    refine ((putT_facts hp).1 k fun e => ?_).symm
    have := hs.uniq i j k (by rw [dstOf_eq ho]; exact e) hjk
    subst this
    exact hh.new (anc_done hs hh.lt hh.dep hj.dclosed i hh.lt ha)
  unfold oneX at hrun
  cases hw : wantedA ops t o with
  | none => rw [hw] at hrun; exact absurd hrun.symm (hfin 85)
  | some bw =>
    rw [hw] at hrun
    cases bw with
    | false =>
      dsimp only at hrun
      cases hp : putT t n o.dst unit with
      | none => rw [hp] at hrun; exact absurd hrun.symm (hfin 84)
      | some t₁ =>
        rw [hp] at hrun
        refine ⟨t₁, σ, hj.ahead hs hl ho hp (hcont _ _ hrun) hj.inv (Stp.refl _ _ _) (fun _ _ h => h) (fun b hb => by cases hb) ?_⟩
        exact ⟨o, t, ho, hanc hp, hhead, false, hw, fun _ k hk => ((putT_facts hp).2 k hk).2, fun h => by cases h⟩
    | true =>
      dsimp only at hrun
      have main : ∀ (v : AV) (σ₁ : AHeap), effX P ih (opX P (evalT G t) σ o.op) = .ret v σ₁ → Inv ρ σ₁ w → Stp ρ σ w ρ σ₁ w → (∀ b o, σ.m.get b = some o → σ₁.m.get b = some o) →
          (∀ b, blk v = some b → kindOf P o.op = .alloc → σ.next.num ≤ b.num) → (∀ t₁, (∀ k, o.dst = some k → t₁.get (posOf k) = some v) → PendV P G t₁ σ₁ ρ σ₀.next.num t o) →
          ∃ t₁ σ₁, J P G ih ops A n d fin ρ₀ σ₀ w₀ t₀ l (i :: done) t₁ σ₁ listed ρ w a := by
        intro v σ₁ he hinv hst hget hblk hpv
        rw [he] at hrun
        dsimp only at hrun
        cases hp : putT t n o.dst v with
        | none => rw [hp] at hrun; exact absurd hrun.symm (hfin 80)
        | some t₁ =>
          rw [hp] at hrun
          refine ⟨t₁, σ₁, hj.ahead hs hl ho hp (hcont _ _ hrun) hinv hst hget hblk ?_⟩
          exact ⟨o, t, ho, hanc hp, hhead, true, hw, fun h => (by cases h), fun _ => hpv t₁ fun k hk => ((putT_facts hp).2 k hk).2⟩
      cases hk : kindOf P o.op with
      | heavy => simp [isHeavy, ho, hk] at hl
      | pure =>
        cases hv : pureA P (evalT G t) o.op with
        | none =>
          have : effX P ih (opX P (evalT G t) σ o.op) = .err 1 := by unfold opX; rw [hk]; dsimp only; rw [hv]; rfl
          rw [this] at hrun
          exact absurd hrun.symm (hfin 1)
        | some v =>
          have : effX P ih (opX P (evalT G t) σ o.op) = .ret v σ := by unfold opX; rw [hk]; dsimp only; rw [hv]; rfl
          refine main v σ this hj.inv (Stp.refl _ _ _) (fun _ _ h => h) (fun b _ h => by rw [hk] at h; cases h) fun t₁ ht₁ => ?_
          unfold PendV; rw [hk]; exact ⟨v, hv, ht₁⟩
      | read =>
        cases hv : readA P (evalT G t) σ o.op with
        | none =>
          have : effX P ih (opX P (evalT G t) σ o.op) = .err 2 := by unfold opX; rw [hk]; dsimp only; rw [hv]; rfl
          rw [this] at hrun
          exact absurd hrun.symm (hfin 2)
        | some v =>
          have : effX P ih (opX P (evalT G t) σ o.op) = .ret v σ := by unfold opX; rw [hk]; dsimp only; rw [hv]; rfl
          refine main v σ this hj.inv (Stp.refl _ _ _) (fun _ _ h => h) (fun b _ h => by rw [hk] at h; cases h) fun t₁ ht₁ => ?_
          unfold PendV; rw [hk]; exact ⟨v, hv, ht₁⟩
      | alloc =>
        cases hv : allocA P (evalT G t) o.op with
        | none =>
          have : effX P ih (opX P (evalT G t) σ o.op) = .err 3 := by unfold opX; rw [hk]; dsimp only; rw [hv]; rfl
          rw [this] at hrun
          exact absurd hrun.symm (hfin 3)
        | some p =>
          obtain ⟨ob, mk⟩ := p
          have : effX P ih (opX P (evalT G t) σ o.op) = .ret (mk.of σ.next) (σ.alloc ob) := by unfold opX; rw [hk]; dsimp only; rw [hv]; rfl
          obtain ⟨g1, g2, g3⟩ := hj.inv.ahead ob
          refine main _ _ this g1 g2 g3 (fun b hb _ => by rw [blk_of] at hb; cases hb; exact Nat.le_refl _) fun t₁ ht₁ => ?_
          unfold PendV; rw [hk]
          exact ⟨ob, mk, σ.next, hv, AHeap.get_alloc σ ob, (hj.inv.fresh _ (Nat.le_refl _)).1, hj.stp.next, by simp [AHeap.alloc, Pos.num_succ], ht₁⟩

/-- The plan goes on till an operation that turns memory, or its end. -/
theorem J.advance (hs : Shape P ops A) (hfin : ∀ k, fin ≠ .err k) : ∀ (l : List (Nat × List Nat)) (done : List Nat) (t : PT AV) (σ : AHeap), J P G ih ops A n d fin ρ₀ σ₀ w₀ t₀ l done t σ listed ρ w a →
    ∃ l' done' t' σ', J P G ih ops A n d fin ρ₀ σ₀ w₀ t₀ l' done' t' σ' listed ρ w a ∧ (l' = [] ∨ ∃ i rc r, l' = (i, rc) :: r ∧ isHeavy P ops i = true)
  | [], done, t, σ, hj => ⟨[], done, t, σ, hj, .inl rfl⟩
  | (i, rc) :: l, done, t, σ, hj => by
    cases hl : isHeavy P ops i with
    | true => exact ⟨_, done, t, σ, hj, .inr ⟨i, rc, l, rfl, hl⟩⟩
    | false =>
      obtain ⟨t₁, σ₁, hj₁⟩ := hj.light hs hl hfin
      exact J.advance hs hfin l _ t₁ σ₁ hj₁
end
end Go.Ev

/- Regions that draw their order: the machine's steps, and the theorem. -/
namespace Go.Ev
section
variable {P : Program} {G : Nat} {ih : IhC} {ops : Array Oper} {A : Array Nat} {n : Nat} {d : List DE} {fin : CR} {ρ₀ : Ren} {σ₀ : AHeap} {w₀ : World} {t₀ : PT AV}
variable {l : List (Nat × List Nat)} {done : List Nat} {t : PT AV} {σ : AHeap} {listed : Array Bool} {ρ : Ren} {w : World} {a : Act}

/-- The machine takes an operation that the plan has taken. -/
theorem J.behind (hs : Shape P ops A) (hj : J P G ih ops A n d fin ρ₀ σ₀ w₀ t₀ l done t σ listed ρ w a) {i : Nat} {o : Oper} {x : Value} {ρ₁ : Ren} {w₁ : World} (ho : ops[i]? = some o) (hid : i ∈ done) (hn : ¬ Li listed i)
    (hr : ∀ j, j < ops.size → anc A i j = true → Li listed j) (hv : ∀ k v, o.dst = some k → t.get (posOf k) = some v → VR ρ₁ v x) (hinv : Inv ρ₁ σ w₁) (hst : Stp ρ₀ σ₀ w₀ ρ₁ σ w₁) (hle : ρ.le ρ₁)
    (hren : ∀ j ∈ done, ¬ Li listed j → j ≠ i → Pend P G ops A t₀ t σ ρ₁ σ₀.next.num j) : J P G ih ops A n d fin ρ₀ σ₀ w₀ t₀ l done t σ (listed.setIfInBounds i true) ρ₁ w₁ (a.put o.dst x) := by
  have hil : i < listed.size := by rw [hj.lsz]; exact hj.bnd i hid
  have hdi : dstOf ops i = o.dst := dstOf_eq ho
  obtain ⟨p1, p2, p3⟩ := put_at (a := a) (dst := o.dst) (x := x)
  have hset : ∀ {j}, Li (listed.setIfInBounds i true) j ↔ j = i ∨ Li listed j := Li_set hil
  refine ⟨hj.run, hj.ok, hinv, hst, by rw [put_defers]; exact hj.dr.mono hle, hj.gr.mono hle, by rw [p3]; exact hj.tsz, by simpa using hj.lsz, hj.bnd, hj.ord, fun j h => ?_, fun j h hh => hset.2 (.inr (hj.heavy j h hh)), fun j q hq h ha => ?_, hj.dclosed, hj.dlt,
    fun j k v h hk hu => ?_, fun k v h hu => ?_, hj.same, fun j h hl => ?_, ?_⟩
  · rcases hset.1 h with rfl | h
    · exact hid
    · exact hj.sub j h
  · rcases hset.1 h with rfl | h
    · exact hset.2 (.inr (hr q hq ha))
    · exact hset.2 (.inr (hj.closed j q hq h ha))
  · by_cases e : j = i
    · subst e
      rw [hdi] at hk
      rw [p2 k hk (by rw [hj.tsz]; exact hj.dlt j hid k (by rw [hdi]; exact hk))]
      exact hv k v hk hu
    · have hL := (hset.1 h).resolve_left e
      rw [p1 k (fun e' => e (hs.uniq j i k hk (by rw [hdi]; exact e')))]
      exact VR.mono hle _ _ (hj.slotS j k v hL hk hu)
  · rw [p1 k (fun e' => h i (hset.2 (.inl rfl)) (by rw [hdi]; exact e'))]
    obtain ⟨q1, q2⟩ := hj.slot0 k v (fun j hL => h j (hset.2 (.inr hL))) hu
    exact ⟨q1, VR.mono hle _ _ q2⟩
  · exact hren j h (fun hL => hl (hset.2 (.inr hL))) (fun e => hl (hset.2 (.inl e)))
  · intro j q o' o'' k k' u u' b h1 h2 h3 h4
    exact hj.apart j q o' o'' k k' u u' b h1 h2 (fun hL => h3 (hset.2 (.inr hL))) (fun hL => h4 (hset.2 (.inr hL)))

theorem stillAll_mem {t₁ : PT AV} {σ₁ : AHeap} : ∀ {rc : List Nat} {j : Nat}, stillAll P G ops t₁ σ₁ rc = true → j ∈ rc → stillX P G ops t₁ σ₁ j = true
  | [], j, _, hj => by cases hj
  | i :: rc, j, h, hj => by
    have h' : (bif stillX P G ops t₁ σ₁ i then stillAll P G ops t₁ σ₁ rc else false) = true := h
    rw [ite_cond] at h'
    split at h'
    · rename_i hi
      rcases mem_cons_cases hj with rfl | hj
      · exact hi
      · exact stillAll_mem h' hj
    · cases h'

/-- Plan and machine take an operation that turns memory. -/
theorem J.turn (hs : Shape P ops A) {i : Nat} {rc : List Nat} (hj : J P G ih ops A n d fin ρ₀ σ₀ w₀ t₀ ((i, rc) :: l) done t σ listed ρ w a) (hl : isHeavy P ops i = true) {o : Oper} (ho : ops[i]? = some o)
    (hr : ∀ j, j < ops.size → anc A i j = true → Li listed j) {v : AV} {x : Value} {t₁ : PT AV} {σ₁ : AHeap} {ρ₁ : Ren} {w₁ : World} (hp : putT t n o.dst v = some t₁) (hstill : stillAll P G ops t₁ σ₁ rc = true) (hrun : planX P G ih ops n d l t₁ σ₁ = fin)
    (hv : VR ρ₁ v x) (hinv : Inv ρ₁ σ₁ w₁) (hst : Stp ρ σ w ρ₁ σ₁ w₁) : J P G ih ops A n d fin ρ₀ σ₀ w₀ t₀ l (i :: done) t₁ σ₁ (listed.setIfInBounds i true) ρ₁ w₁ (a.put o.dst x) := by
  obtain ⟨hh, hok⟩ := plan_head hs hj.bnd hj.ok
  obtain ⟨f1, f2⟩ := putT_facts hp
  have hle := hst.le hj.inv
  have hil : i < listed.size := by rw [hj.lsz]; exact hh.lt
  have hdi : dstOf ops i = o.dst := dstOf_eq ho
  obtain ⟨p1, p2, p3⟩ := put_at (a := a) (dst := o.dst) (x := x)
  have hset : ∀ {j}, Li (listed.setIfInBounds i true) j ↔ j = i ∨ Li listed j := Li_set hil
  have hnL : ¬ Li listed i := fun h => hh.new (hj.sub i h)
  have hother : ∀ j ∈ done, ∀ k, dstOf ops j = some k → t₁.get (posOf k) = t.get (posOf k) := fun j hjd k hk => f1 k fun e => by
    have := hs.uniq i j k (by rw [hdi]; exact e) hk
    subst this; exact hh.new hjd
  refine ⟨hrun, hok, hinv, hj.stp.trans hst, by rw [put_defers]; exact hj.dr.mono hle, hj.gr.mono hle, by rw [p3]; exact hj.tsz, by simpa using hj.lsz, fun j h => ?_, ⟨hh.dep, hj.ord⟩, fun j h => ?_, fun j h hv => ?_, fun j q hq h ha => ?_, fun j q hq h ha => ?_, fun j h k hk => ?_,
    fun j k u h hk hu => ?_, fun k u h hu => ?_, fun k hk => ?_, fun j h hjl => ?_, ?_⟩
  · rcases mem_cons_cases h with rfl | h
    · exact hh.lt
    · exact hj.bnd j h
  · rcases hset.1 h with rfl | h
    · exact List.mem_cons_self ..
    · exact List.mem_cons_of_mem _ (hj.sub j h)
  · rcases mem_cons_cases h with rfl | h
    · exact hset.2 (.inl rfl)
    · exact hset.2 (.inr (hj.heavy j h hv))
  · rcases hset.1 h with rfl | h
    · exact hset.2 (.inr (hr q hq ha))
    · exact hset.2 (.inr (hj.closed j q hq h ha))
  · rcases mem_cons_cases h with rfl | h
    · exact List.mem_cons_of_mem _ (anc_done hs hh.lt hh.dep hj.dclosed q hq ha)
    · exact List.mem_cons_of_mem _ (hj.dclosed j q hq h ha)
  · rcases mem_cons_cases h with rfl | h
    · exact (f2 k (by rw [← hdi]; exact hk)).1
    · exact hj.dlt j h k hk
  · by_cases e : j = i
    · subst e
      rw [hdi] at hk
      obtain ⟨q1, q2⟩ := f2 k hk
      rw [p2 k hk (by rw [hj.tsz]; exact q1)]
      rw [q2] at hu; cases hu
      exact hv
    · have hL := (hset.1 h).resolve_left e
      rw [p1 k (fun e' => e (hs.uniq j i k hk (by rw [hdi]; exact e')))]
      rw [hother j (hj.sub j hL) k hk] at hu
      exact VR.mono hle _ _ (hj.slotS j k u hL hk hu)
  · rw [p1 k (fun e' => h i (hset.2 (.inl rfl)) (by rw [hdi]; exact e'))]
    obtain ⟨q1, q2⟩ := hj.slot0 k u (fun j hL => h j (hset.2 (.inr hL))) hu
    exact ⟨q1, VR.mono hle _ _ q2⟩
  · rw [f1 k (fun e => hk i (List.mem_cons_self ..) (by rw [hdi]; exact e))]
    exact hj.same k fun j h => hk j (List.mem_cons_of_mem _ h)
  · have hji : j ≠ i := fun e => hjl (hset.2 (.inl e))
    have hjL : ¬ Li listed j := fun hL => hjl (hset.2 (.inr hL))
    have hjd : j ∈ done := (mem_cons_cases h).resolve_left hji
    refine (hj.pend j hjd hjL).again hs (fun k hk => ?_) (fun k hk => ?_) (fun hlm => ?_) (fun b hb => hst.ext b hb) hst.next
    · rcases hk with hk | ⟨q, hq, hk⟩
      · exact hother j hjd k hk
      · exact hother q (hj.dclosed j q (dstOf_lt hk) hjd hq) k hk
    · rw [f1 k (fun e => hk i (by rw [hdi]; exact e))]
      exact hj.same k fun j _ => hk j
    · rcases hh.again hl j hjd hlm with ha | hm
      · exact absurd (hr j (hj.bnd j hjd) ha) hjL
      · exact stillAll_mem hstill hm
  · intro j q o' o'' k k' u u' b h1 h2 h3 h4 h5 h6 h7 h8 h9 h10 h11 h12 h13 h14
    have m1 : j ∈ done := (mem_cons_cases h1).resolve_left fun e => h3 (hset.2 (.inl e))
    have m2 : q ∈ done := (mem_cons_cases h2).resolve_left fun e => h4 (hset.2 (.inl e))
    rw [hother j m1 k h9] at h11
    rw [hother q m2 k' h10] at h12
    exact hj.apart j q o' o'' k k' u u' b m1 m2 (fun hL => h3 (hset.2 (.inr hL))) (fun hL => h4 (hset.2 (.inr hL))) h5 h6 h7 h8 h9 h10 h11 h12 h13 h14

/-! What is ready. -/
theorem ready_to {i : Nat} (hsz : listed.size = ops.size) (h : i ∈ Region.ready .any ops listed) : i < ops.size ∧ ¬ Li listed i ∧ ∀ j, waits ops i j = true → Li listed j := by
  obtain ⟨h1, o, ho, h2⟩ := mem_ready.1 h
  have hlt := (Array.getElem?_eq_some_iff.1 ho).1
  refine ⟨hlt, (not_Li (by rw [hsz]; exact hlt)).1 h1, fun j hw => ?_⟩
  obtain ⟨o', ho', e, he, hb, rfl⟩ := waits_iff.1 hw
  rw [ho] at ho'; cases ho'
  exact h2 e he hb
theorem ready_of {i : Nat} (hsz : listed.size = ops.size) (hlt : i < ops.size) (hn : ¬ Li listed i) (hw : ∀ j, waits ops i j = true → Li listed j) : i ∈ Region.ready .any ops listed :=
  mem_ready.2 ⟨(not_Li (by rw [hsz]; exact hlt)).2 hn, ops[i]'hlt, Array.getElem?_eq_getElem hlt, fun e he hb => hw _ (waits_iff.2 ⟨_, Array.getElem?_eq_getElem hlt, e, he, hb, rfl⟩)⟩

theorem ord_first : ∀ {done : List Nat}, Ord ops done → (∃ i ∈ done, ¬ Li listed i) → ∃ i ∈ done, ¬ Li listed i ∧ ∀ j, waits ops i j = true → Li listed j
  | [], _, ⟨i, hi, _⟩ => by cases hi
  | i :: r, ho, ⟨q, hq, hn⟩ => by
    by_cases hr : ∃ j ∈ r, ¬ Li listed j
    · obtain ⟨j, h1, h2, h3⟩ := ord_first ho.2 hr
      exact ⟨j, List.mem_cons_of_mem _ h1, h2, h3⟩
    · have hall : ∀ j ∈ r, Li listed j := fun j hj => Classical.byContradiction fun h => hr ⟨j, hj, h⟩
      rcases mem_cons_cases hq with rfl | hq
      · exact ⟨q, List.mem_cons_self .., hn, fun j hw => hall j (ho.1 j hw)⟩
      · exact absurd (hall q hq) hn

theorem J.all (hs : Shape P ops A) (hj : J P G ih ops A n d fin ρ₀ σ₀ w₀ t₀ l done t σ listed ρ w a) (hr : Region.ready .any ops listed = []) : ∀ i, i < ops.size → Li listed i := by
  have hall : ∀ i ∈ done, Li listed i := fun i hi => Classical.byContradiction fun h => by
    obtain ⟨q, h1, h2, h3⟩ := ord_first hj.ord ⟨i, hi, h⟩
    have := ready_of hj.lsz (hj.bnd q h1) h2 h3
    rw [hr] at this; cases this
  intro i hi
  cases l with
  | nil =>
    have := hj.ok
    simp only [planOK, List.all_eq_true] at this
    exact hall i (by simpa using this i (List.mem_range.2 hi))
  | cons p l =>
    obtain ⟨q, rc⟩ := p
    obtain ⟨hh, _⟩ := plan_head hs hj.bnd hj.ok
    have := ready_of (listed := listed) hj.lsz hh.lt (fun h => hh.new (hj.sub q h)) (fun j hw => hall j (hh.dep j hw))
    rw [hr] at this; cases this

theorem J.finish (hs : Shape P ops A) (hj : J P G ih ops A n d fin ρ₀ σ₀ w₀ t₀ l done t σ listed ρ w a) (hall : ∀ i, i < ops.size → Li listed i) : fin = .ok .normal t d σ ∧ TR ρ t n a.tmps := by
  cases l with
  | nil =>
    refine ⟨hj.run.symm, hj.tsz, fun k v hv => ?_⟩
    by_cases hw : ∃ i, dstOf ops i = some k
    · obtain ⟨i, hi⟩ := hw
      have hL := hall i (dstOf_lt hi)
      exact ⟨hj.dlt i (hj.sub i hL) k hi, hj.slotS i k v hL hi hv⟩
    · rw [hj.same k fun i _ hi => hw ⟨i, hi⟩] at hv
      exact hj.slot0 k v (fun i _ hi => hw ⟨i, hi⟩) hv
  | cons p l =>
    obtain ⟨q, rc⟩ := p
    obtain ⟨hh, _⟩ := plan_head hs hj.bnd hj.ok
    exact absurd (hj.sub q (hall q hh.lt)) hh.new

/-! So many are left. -/
def left (N : Nat) (listed : Array Bool) : Nat := (List.range N).countP fun i => !listed.getD i false
theorem countP_lt {α : Type} {p q : α → Bool} : ∀ {l : List α} {x : α}, (∀ y ∈ l, q y = true → p y = true) → x ∈ l → p x = true → q x = false → l.countP q < l.countP p
  | [], x, _, hx, _, _ => by cases hx
  | y :: l, x, h, hx, hp, hq => by
    have hle : l.countP q ≤ l.countP p := List.countP_mono_left fun z hz => h z (List.mem_cons_of_mem _ hz)
    rcases mem_cons_cases hx with rfl | hx
    · simp [List.countP_cons, hp, hq]; omega
    · have := countP_lt (fun z hz => h z (List.mem_cons_of_mem _ hz)) hx hp hq
      rw [List.countP_cons, List.countP_cons]
      cases hy : q y with
      | false => simp; omega
      | true => rw [h y (List.mem_cons_self ..) hy]; simp; omega
theorem left_set {N i : Nat} (hi : i < N) (hsz : listed.size = N) (hn : ¬ Li listed i) : left N (listed.setIfInBounds i true) < left N listed := by
  refine countP_lt (x := i) (fun y _ hy => ?_) (List.mem_range.2 hi) ?_ ?_
  · by_cases h : Li listed y
    · have : Li (listed.setIfInBounds i true) y := (Li_set (by rw [hsz]; exact hi)).2 (.inr h)
      unfold Li at this
      rw [this] at hy; cases hy
    · unfold Li at h; simpa using h
  · unfold Li at hn; simpa using hn
  · have : Li (listed.setIfInBounds i true) i := (Li_set (by rw [hsz]; exact hi)).2 (.inl rfl)
    unfold Li at this
    rw [this]; rfl
theorem left_zero {N : Nat} (h : left N listed = 0) : ∀ i, i < N → Li listed i := fun i hi => by
  have := List.countP_eq_zero.1 h i (List.mem_range.2 hi)
  unfold Li
  simpa using this

/-- The machine lays a block that the plan has laid. -/
theorem Inv.lay (hi : Inv ρ σ w) {b : Pos} {l : Loc} {ob : AObj} {x : Obj} (hb : σ.m.get b = some ob) (hn : ρ b = none) (hlt : b.num < σ.next.num) (hl : l.blk = w.heap.size) (ho : ObjR ρ l ob x) : Inv (ρ.with b l) σ (w.alloc x) ∧ ρ.le (ρ.with b l) := by
  have hle : ρ.le (ρ.with b l) := fun b' l' hb' => by
    rw [Ren.with_other]; · exact hb'
    · intro e; subst e; rw [hn] at hb'; cases hb'
  have hold : ∀ b' l', b' ≠ b → (ρ.with b l) b' = some l' → ρ b' = some l' := fun b' l' hne h => by rwa [Ren.with_other ρ l hne] at h
  refine ⟨⟨fun b' hb' => ?_, fun b' l' hb' => ?_, fun b' o' l' hb' hl' => ?_, fun b₁ b₂ o₁ o₂ l₁ l₂ h1 h2 h3 h4 h5 h6 => ?_⟩, hle⟩
  · have hne : b' ≠ b := fun e => by subst e; omega
    rw [Ren.with_other ρ l hne]
    exact hi.fresh b' hb'
  · simp only [World.size_alloc]
    by_cases e : b' = b
    · subst e; rw [Ren.with_same] at hb'; cases hb'; omega
    · have := hi.blk b' l' (hold b' l' e hb'); omega
  · by_cases e : b' = b
    · subst e
      rw [Ren.with_same] at hl'; cases hl'
      rw [hb] at hb'; cases hb'
      exact ⟨x, by rw [hl]; exact heap_alloc_new w x, ho.mono hle⟩
    · have h' := hold b' l' e hl'
      obtain ⟨y, hy, hr⟩ := hi.obj b' o' l' hb' h'
      exact ⟨y, by rw [heap_alloc_old w x (hi.blk b' l' h')]; exact hy, hr.mono hle⟩
  · by_cases e1 : b₁ = b <;> by_cases e2 : b₂ = b
    · exact absurd (e1.trans e2.symm) h6
    · subst e1
      rw [Ren.with_same] at h3; cases h3
      have := hi.blk b₂ l₂ (hold b₂ l₂ e2 h4); omega
    · subst e2
      rw [Ren.with_same] at h4; cases h4
      have := hi.blk b₁ l₁ (hold b₁ l₁ e1 h3); omega
    · exact hi.inj b₁ b₂ o₁ o₂ l₁ l₂ h1 h2 (hold b₁ l₁ e1 h3) (hold b₂ l₂ e2 h4) h5 h6
theorem Stp.lay (hst : Stp ρ₀ σ₀ w₀ ρ σ w) {b : Pos} {l : Loc} {x : Obj} (hlo : σ₀.next.num ≤ b.num) (hl : l.blk = w.heap.size) : Stp ρ₀ σ₀ w₀ (ρ.with b l) σ (w.alloc x) := by
  refine ⟨fun b' hb' => ?_, hst.next, by have := hst.size; simp; omega, fun r hr hn => ?_, ?_, hst.tape, hst.os, hst.out⟩
  · rw [Ren.with_other ρ l (fun e => by subst e; omega)]
    exact hst.ext b' hb'
  · rw [heap_alloc_old w x (by have := hst.size; omega)]
    exact hst.frame r hr hn
  · rintro r ⟨b', o', l', h1, h2, h3, rfl⟩ hr
    by_cases e : b' = b
    · subst e; rw [Ren.with_same] at h3; cases h3; have := hst.size; omega
    · rw [Ren.with_other ρ l e] at h3
      exact hst.wr _ ⟨b', o', l', h1, h2, h3, rfl⟩ hr

/-- An operation that the machine has still to take, and that the plan has taken. -/
theorem J.take (hs : Shape P ops A) (hj : J P G ih ops A n d fin ρ₀ σ₀ w₀ t₀ l done t σ listed ρ w a) {i : Nat} (hid : i ∈ done) (hn : ¬ Li listed i) (hw : ∀ j, waits ops i j = true → Li listed j) (rl : Option Nat) (m : Nat) {Q : Exit → Act → World → Prop} {K : Act → World → Prop}
    (hK : ∀ ρ₁ w₁ a₁, J P G ih ops A n d fin ρ₀ σ₀ w₀ t₀ l done t σ (listed.setIfInBounds i true) ρ₁ w₁ a₁ → K a₁ w₁) : wpOpIn (fenc rl) m P ops Q i K a w := by
  have hr := anc_listed hs (hj.bnd i hid) hw hj.closed
  obtain ⟨o, ti, ho, h1, h2, bw, h3, h4, h5⟩ := hj.pend i hid hn
  have hlook := hj.look hs ho hn hr h1 h2
  unfold wpOpIn
  rw [ho]
  dsimp only
  rw [look_wanted hj.tsz hlook h3]
  cases bw with
  | false =>
    simp only [Bool.false_eq_true, if_false]
    exact ⟨fun f _ => fenc_fn rl f, hK ρ w _ (hj.behind hs ho hid hn hr (fun k v hk hv => by rw [h4 rfl k hk] at hv; cases hv; exact VR_unit) hj.inv hj.stp (fun _ _ h => h) fun j hjd hjl _ => hj.pend j hjd hjl)⟩
  | true =>
    simp only [if_true]
    have hE : ER ρ (evalT G ti) a.eval o.op := look_ER hj.gr hlook
    have hv := h5 rfl
    unfold PendV at hv
    have hnd : kindOf P o.op ≠ .heavy → ∀ c, o.op ≠ .defer c := fun hk c e => hk (by rw [e]; rfl)
    unfold Oper.wpIn
    refine ⟨fun f _ => fenc_fn rl f, ?_⟩
    cases hk : kindOf P o.op with
    | heavy => rw [hk] at hv; exact hv.elim
    | pure =>
      rw [hk] at hv
      obtain ⟨v, g1, g2⟩ := hv
      obtain ⟨x, hx, hvx⟩ := pure_sound (P := P) (w := w) hE g1
      rw [Oper.semAt_eq _ _ _ (hnd (by rw [hk]; simp)), hx, Oper.uponIn_value]
      exact hK ρ w _ (hj.behind hs ho hid hn hr (fun k u hk hu => by rw [g2 k hk] at hu; cases hu; exact hvx) hj.inv hj.stp (fun _ _ h => h) fun j hjd hjl _ => hj.pend j hjd hjl)
    | read =>
      rw [hk] at hv
      obtain ⟨v, g1, g2⟩ := hv
      obtain ⟨x, hx, hvx⟩ := read_sound (P := P) hj.inv hE g1
      rw [Oper.semAt_eq _ _ _ (hnd (by rw [hk]; simp)), hx, Oper.uponIn_value]
      exact hK ρ w _ (hj.behind hs ho hid hn hr (fun k u hk hu => by rw [g2 k hk] at hu; cases hu; exact hvx) hj.inv hj.stp (fun _ _ h => h) fun j hjd hjl _ => hj.pend j hjd hjl)
    | alloc =>
      rw [hk] at hv
      obtain ⟨ob, mk, b, g1, g2, g3, g4, g5, g6⟩ := hv
      obtain ⟨x, ob', c, hx, hro, hob, hvx⟩ := alloc_sound (P := P) (w := w) hE g1
      rw [Oper.semAt_eq _ _ _ (hnd (by rw [hk]; simp)), hx, Oper.uponIn_value]
      obtain ⟨inv, hle⟩ := hj.inv.lay (l := ⟨w.heap.size, 0, c⟩) g2 g3 g5 rfl hob
      obtain ⟨kd, hkd⟩ := hs.dst i o ho (by simp [looksMem, ho, hk])
      refine hK _ _ _ (hj.behind hs ho hid hn hr (fun k u hk hu => by rw [g6 k hk] at hu; cases hu; exact hvx _ b (Ren.with_same _ _ _)) inv (hj.stp.lay g4 rfl) hle fun j hjd hjl hji => ?_)
      refine (hj.pend j hjd hjl).ren hs fun b' hb' hb'n => ?_
      obtain ⟨o', k', v', q1, q2, q3, q4, q5⟩ := hb'
      rw [Ren.with_other]
      · exact hb'n
      · intro e
        subst e
        exact hji (hj.apart j i o' o k' kd v' (mk.of b') b' hjd hid hjl hn q1 ho q2 hk q3 (by rw [dstOf_eq ho]; exact hkd) q4 (g6 kd hkd) q5 (blk_of mk b'))

theorem draw_any (hs : Shape P ops A) (hS : Sound P G ih) (rl : Option Nat) (m : Nat) {Q : Exit → Act → World → Prop} {e : Ex} {t' : PT AV} {d' : List DE} {σ' : AHeap} (hfin : fin = .ok e t' d' σ')
    (hQ : ∀ (ρ' : Ren) (w' : World) (a' : Act), Inv ρ' σ' w' → Stp ρ₀ σ₀ w₀ ρ' σ' w' → TR ρ' t' n a'.tmps → DR ρ' d' a'.defers → Q (exOf e) a' w') :
    ∀ (fuel : Nat) (l : List (Nat × List Nat)) (done : List Nat) (t : PT AV) (σ : AHeap) (listed : Array Bool) (ρ : Ren) (w : World) (a : Act), J P G ih ops A n d fin ρ₀ σ₀ w₀ t₀ l done t σ listed ρ w a → left ops.size listed ≤ fuel →
      wpAnyIn (fenc rl) m P .any ops Q fuel listed a w := by
  have hend : ∀ {l done t σ listed ρ w a}, J P G ih ops A n d fin ρ₀ σ₀ w₀ t₀ l done t σ listed ρ w a → Region.ready .any ops listed = [] → Q .normal a w := fun {l done t σ listed ρ w a} hj hr => by
    obtain ⟨h1, h2⟩ := hj.finish hs (hj.all hs hr)
    rw [hfin] at h1
    cases h1
    exact hQ ρ w a hj.inv hj.stp h2 hj.dr
  intro fuel
  induction fuel with
  | zero =>
    intro l done t σ listed ρ w a hj hf
    have hall := left_zero (Nat.le_zero.1 hf)
    have hr : Region.ready .any ops listed = [] := by
      apply List.eq_nil_iff_forall_not_mem.2
      intro i hi
      obtain ⟨h1, h2, _⟩ := ready_to hj.lsz hi
      exact h2 (hall i h1)
    exact ⟨hr, hend hj hr⟩
  | succ fuel ihf =>
    intro l done t σ listed ρ w a hj hf
    refine ⟨fun hr => hend hj hr, fun i hi => ?_⟩
    obtain ⟨l, done, t, σ, hj, hhead⟩ := J.advance hs (fun k => by rw [hfin]; simp) l done t σ hj
    obtain ⟨hlt, hn, hw⟩ := ready_to hj.lsz hi
    have hf' : left ops.size (listed.setIfInBounds i true) ≤ fuel := by have := left_set hlt hj.lsz hn; omega
    by_cases hid : i ∈ done
    · exact hj.take hs hid hn hw rl m fun ρ₁ w₁ a₁ hj₁ => ihf _ _ _ _ _ _ _ _ hj₁ hf'
    · -- it is the one that turns memory
      rcases hhead with rfl | ⟨q, rc, r, rfl, hl⟩
      · have := hj.ok
        simp only [planOK, List.all_eq_true] at this
        exact absurd (by simpa using this i (List.mem_range.2 hlt)) hid
      · obtain ⟨hh, _⟩ := plan_head hs hj.bnd hj.ok
        have hiq : i = q := Classical.byContradiction fun hne => by
          obtain ⟨x, h1, h2⟩ := hh.alone hl i hlt hid hne
          exact h2 (hj.sub x (hw x h1))
        subst hiq
        have hr := anc_listed hs hlt hw hj.closed
        obtain ⟨o, ho⟩ : ∃ o, ops[i]? = some o := ⟨ops[i]'hlt, Array.getElem?_eq_getElem hlt⟩
        have hlook := hj.look hs ho hn hr (ti := t) (fun _ _ _ _ _ => rfl) (hj.head_slots hs ho hh.new)
        have hrun : (match ops[i]? with
          | some o => oneX P G ih ops n o t σ (fun t' σ' => bif stillAll P G ops t' σ' rc then planX P G ih ops n d r t' σ' else .err 86)
          | none => .err 87) = fin := hj.run
        rw [ho, hfin] at hrun
        dsimp only at hrun
        have hcont : ∀ t₁ σ₁, (bif stillAll P G ops t₁ σ₁ rc then planX P G ih ops n d r t₁ σ₁ else .err 86) = .ok e t' d' σ' → stillAll P G ops t₁ σ₁ rc = true ∧ planX P G ih ops n d r t₁ σ₁ = fin := fun t₁ σ₁ h => by
          rw [ite_cond] at h
          split at h
          · rename_i hst; exact ⟨hst, by rw [hfin]; exact h⟩
          · cases h
        unfold oneX at hrun
        unfold wpOpIn
        rw [ho]
        dsimp only
        cases hwa : wantedA ops t o with
        | none => rw [hwa] at hrun; cases hrun
        | some bw =>
          rw [hwa] at hrun
          rw [look_wanted hj.tsz hlook hwa]
          cases bw with
          | false =>
            dsimp only at hrun
            simp only [Bool.false_eq_true, if_false]
            cases hp : putT t n o.dst unit with
            | none => rw [hp] at hrun; cases hrun
            | some t₁ =>
              rw [hp] at hrun
              obtain ⟨c1, c2⟩ := hcont _ _ hrun
              exact ⟨fun f _ => fenc_fn rl f, ihf _ _ _ _ _ _ _ _ (hj.turn hs hl ho hr hp c1 c2 VR_unit hj.inv (Stp.refl _ _ _)) hf'⟩
          | true =>
            dsimp only at hrun
            simp only [if_true]
            cases he : effX P ih (opX P (evalT G t) σ o.op) with
            | err k => rw [he] at hrun; cases hrun
            | ret v σ₁ =>
              rw [he] at hrun
              dsimp only at hrun
              cases hp : putT t n o.dst v with
              | none => rw [hp] at hrun; cases hrun
              | some t₁ =>
                rw [hp] at hrun
                obtain ⟨c1, c2⟩ := hcont _ _ hrun
                exact one_wpIn hS hj.inv hj.gr (look_ER hj.gr hlook) he rl m fun ρ₁ w₁ x inv st hv => ihf _ _ _ _ _ _ _ _ (hj.turn hs hl ho hr hp c1 c2 hv inv st) hf'
end
end Go.Ev

/- The evaluator's code is the machine's; a call's answer. -/
namespace Go.Ev
section
variable {P : Program} {G : Nat}

theorem not_Li_replicate {N i : Nat} : ¬ Li (Array.replicate N false) i := by
  unfold Li
  rw [Array.getD_eq_getD_getElem?, Array.getElem?_replicate]
  split <;> simp

theorem draw_sound {ih : IhC} (hS : Sound P G ih) {ops : Array Oper} {n : Nat} {d : List DE} {t : PT AV} {σ : AHeap} {e : Ex} {t' : PT AV} {d' : List DE} {σ' : AHeap} (h : drawX P G ih ops n d t σ = .ok e t' d' σ')
    {ρ : Ren} {w : World} {a : Act} (hi : Inv ρ σ w) (hg : GR ρ G) (ht : TR ρ t n a.tmps) (hd : DR ρ d a.defers) (rl : Option Nat) (m : Nat) {Q : Exit → Act → World → Prop}
    (hQ : ∀ (ρ' : Ren) (w' : World) (a' : Act), Inv ρ' σ' w' → Stp ρ σ w ρ' σ' w' → TR ρ' t' n a'.tmps → DR ρ' d' a'.defers → Q (exOf e) a' w') :
    wpAnyIn (fenc rl) m P .any ops Q ops.size (Array.replicate ops.size false) a { w with drawn := w.drawn + 1 } := by
  unfold drawX at h
  rw [ite_cond] at h
  split at h
  · rename_i hc
    rw [Bool.and_eq_true] at hc
    obtain ⟨hc1, hc2⟩ := hc
    have hs := shape_of hc1
    refine draw_any (A := ancOf ops) (n := n) (d := d) (t₀ := t) (ρ₀ := ρ) (σ₀ := σ) (w₀ := w) hs hS rl m rfl hQ ops.size (plan P ops) [] t σ _ ρ _ a ?_ ?_
    · refine ⟨h, hc2, hi.drew, Stp.drew ρ σ w, hd, hg, ht.1, by simp, fun i hi => (by cases hi), trivial, fun i hL => absurd hL not_Li_replicate, fun i hi => (by cases hi), fun i j _ hL => absurd hL not_Li_replicate, fun i j _ hi => (by cases hi), fun i hi => (by cases hi),
        fun i k v hL => absurd hL not_Li_replicate, fun k v _ hv => ht.2 k v hv, fun _ _ => rfl, fun i hi => (by cases hi), ?_⟩
      intro i j o o' k k' u u' b hi
      cases hi
    · exact Nat.le_trans List.countP_le_length (by simp)
  · cases h

theorem enter_sound {ro : Option Pos} {rl : Option Nat} {d d₁ : List DE} {σ σ₁ : AHeap} {df : Pos} {ρ : Ren} {w : World} {a : Act} {t : PT AV} {n : Nat} (h : marksX ro d σ = some (df, σ₁, d₁)) (hi : Inv ρ σ w) (ht : TR ρ t n a.tmps) (hd : DR ρ d a.defers) (hr : RO ρ ro rl)
    (fn : FuncId) (ps : Array Tmp) (assign body : Code) :
    ∃ l mark w₁ ρ₁, (Instr.enterLoop fn a.tmps ps assign body rl).run P w = .ok (l, mark) w₁ ∧ Inv ρ₁ (σ₁.alloc (.loop .ready none t n ps.toList assign body df)) w₁ ∧ Stp ρ σ w ρ₁ (σ₁.alloc (.loop .ready none t n ps.toList assign body df)) w₁ ∧
      ρ₁ σ₁.next = some ⟨l, 0, 0⟩ ∧ DR ρ₁ d₁ (mark ++ a.defers) := by
  unfold marksX at h
  cases ro with
  | none =>
    cases rl with
    | some _ => exact hr.elim
    | none =>
    cases h
    obtain ⟨i1, s1⟩ := hi.alloc (o := .mark) (x := .deferred (some [])) (l := ⟨w.heap.size, 0, 0⟩) rfl rfl
    have hle1 := s1.le hi
    obtain ⟨i2, s2⟩ := i1.alloc (o := .loop .ready none t n ps.toList assign body σ.next) (x := .loop { state := .ready, pending := none, fn := fn, tmps := a.tmps, params := ps, assign := assign, body := body, defers := w.heap.size }) (l := ⟨w.heap.size + 1, 0, 0⟩) (by simp)
      ⟨fn, a.tmps, ⟨w.heap.size, 0, 0⟩, by simp, Ren.with_same _ _ _, ht.mono hle1⟩
    refine ⟨_, _, _, _, run_enterLoop_outer fn a.tmps ps assign body, i2, s1.trans s2, Ren.with_same _ _ _, ?_⟩
    exact ⟨⟨w.heap.size, 0, 0⟩, a.defers, s2.le i1 _ _ (Ren.with_same _ _ _), rfl, hd.mono (fun b l hb => s2.le i1 _ _ (hle1 b l hb))⟩
  | some b =>
    cases rl with
    | none => exact hr.elim
    | some l₀ =>
    obtain ⟨loc, hl, rfl⟩ := hr
    dsimp only at h
    cases hb : σ.m.get b with
    | none => rw [hb] at h; cases h
    | some ob =>
    rw [hb] at h
    cases ob with
    | loop st p tmps n' ps' as' bd df' =>
      cases h
      obtain ⟨x, hh, fn', tmps', l', rfl, hdf, htm⟩ := hi.obj b _ loc hb hl
      obtain ⟨i2, s2⟩ := hi.alloc (o := .loop .ready none t n ps.toList assign body df) (x := .loop { state := .ready, pending := none, fn := fn, tmps := a.tmps, params := ps, assign := assign, body := body, defers := l'.blk }) (l := ⟨w.heap.size, 0, 0⟩) rfl
        ⟨fn, a.tmps, l', by simp, hdf, ht⟩
      exact ⟨_, _, _, _, run_enterLoop_inner hh fn a.tmps ps assign body, i2, s2, Ren.with_same _ _ _, hd.mono (s2.le hi)⟩
    | _ => cases h

theorem then_other {K : Act → World → Prop} {Q : Exit → Act → World → Prop} {e : Ex} {a : Act} {w : World} (he : e ≠ .normal) (h : Q (exOf e) a w) : Exit.then K Q (exOf e) a w := by
  cases e <;> first | exact absurd rfl he | exact h

theorem range_sound {ih : IhC} (hS : Sound P G ih) {g : Operand} {ps : Array Tmp} {assign body : Code} {t : PT AV} {n : Nat} {d : List DE} {ro : Option Pos} {σ : AHeap} {e : Ex} {t' : PT AV} {d' : List DE} {σ' : AHeap}
    (h : rangeX P G ih g ps assign body t n d ro σ = .ok e t' d' σ') {ρ : Ren} {w : World} {a : Act} {rl : Option Nat} {m : Nat} {Q : Exit → Act → World → Prop} (hi : Inv ρ σ w) (hg : GR ρ G) (ht : TR ρ t n a.tmps) (hd : DR ρ d a.defers) (hr : RO ρ ro rl)
    (hQ : ∀ (ρ' : Ren) (w' : World) (a' : Act), Inv ρ' σ' w' → Stp ρ σ w ρ' σ' w' → TR ρ' t' n a'.tmps → DR ρ' d' a'.defers → Q (exOf e) a' w') : (Code.rangeFunc g ps assign body).wpIn (fenc rl) m P Q a w := by
  unfold rangeX at h
  cases hm : marksX ro d σ with
  | none => rw [hm] at h; cases h
  | some q =>
  obtain ⟨df, σ₁, d₁⟩ := q
  rw [hm] at h
  dsimp only at h
  cases hv : evalT G t g with
  | none => rw [hv] at h; cases h
  | some fv =>
  rw [hv] at h
  cases fv with
  | func f fi ca =>
    dsimp only at h
    rw [ite_cond] at h
    split at h
    · rename_i hgo
      refine wpIn_rangeFunc fun fn _ => ?_
      obtain ⟨l, mark, w₁, ρ₁, g1, g2, g3, g4, g5⟩ := enter_sound (P := P) hm hi ht hd hr fn ps assign body
      have hle := g3.le hi
      have hfv := eval_sound (a := a) hg ht hv
      simp only [VR] at hfv
      obtain ⟨fi', ca', hev, hfi, hca⟩ := hfv
      have hres : (resolve a.eval (rangeCall g l) 0).run P w₁ = .ok { target := .fn (.func f) ca', args := fi' ++ #[.func (.yield l) #[] #[]] } w₁ := by
        have hm1 : (#[Operand.const (.func (.yield l) #[] #[])]).map a.eval = #[.func (.yield l) #[] #[]] := by simp [Act.eval]
        simp only [resolve, rangeCall, hm1, hev, Deferred.ofValue, Sem.run_pure]
      have hinv : (invoke (.fn (.func f) ca') (fi' ++ #[.func (.yield l) #[] #[]])).run P w₁ = .ok (.enter f (fi' ++ #[.func (.yield l) #[] #[]] ++ ca')) w₁ := by
        simp only [invoke]
        exact isGo_sound hgo
      refine ⟨l, mark, w₁, _, w₁, f, _, w₁, by rw [fenc_round]; exact g1, hres, fun f' _ => fenc_fn rl f', hinv, fenc_deep rl m, ?_⟩
      cases hc : callX P ih f (appN fi (.yield σ₁.next :: ca)) (σ₁.alloc (.loop .ready none t n ps.toList assign body df)) with
      | err k => rw [hc] at h; cases h
      | ret v σ₃ =>
      rw [hc] at h
      dsimp only at h
      refine call_sound hS hc g2 (hg.mono hle) ?_ rl _ fun ρ₃ w₃ x i₃ s₃ hx => ?_
      · rw [appN_eq]
        have : (fi' ++ #[Value.func (.yield l) #[] #[]] ++ ca').toList = fi'.toList ++ (.func (.yield l) #[] #[] :: ca'.toList) := by simp
        rw [this]
        refine VRs.append (VRs.mono hle _ _ hfi) (VRs.cons ?_ (VRs.mono hle _ _ hca))
        simp only [VR]
        exact ⟨_, g4, rfl⟩
      · have hl₃ := s₃.le g2 _ _ g4
        have hle₃ : ρ.le ρ₃ := fun b l hb => s₃.le g2 _ _ (hle b l hb)
        unfold afterX at h
        cases hb : σ₃.m.get σ₁.next with
        | none => rw [hb] at h; cases h
        | some ob =>
        rw [hb] at h
        cases ob with
        | loop st p tmps n' ps' as bd df' =>
          dsimp only at h
          obtain ⟨y, hh, fn', tmps', l', rfl, hdf, htm⟩ := i₃.obj _ _ _ hb hl₃
          have hnb : st ≠ .busy := fun hst => by subst hst; cases h
          have h' : (match p with
              | none => CR.ok .normal t d₁ (σ₃.setObj σ₁.next (.loop .exhausted none tmps n' ps' as bd df'))
              | some c => ih c t n d₁ ro (σ₃.setObj σ₁.next (.loop .exhausted (some c) tmps n' ps' as bd df'))) = .ok e t' d' σ' := by
            cases st <;> first | exact absurd rfl hnb | exact h
          obtain ⟨i₄, s₄⟩ := i₃.putObj (o' := .loop .exhausted p tmps n' ps' as bd df') hb hl₃ rfl rfl
            (x := .loop { state := .exhausted, pending := p, fn := fn', tmps := tmps', params := ps'.toArray, assign := as, body := bd, defers := l'.blk }) ⟨fn', tmps', l', rfl, hdf, htm⟩
          refine ⟨p, _, run_endLoop hh hnb, ?_⟩
          have hst := (g3.trans s₃).trans s₄
          have hle₁₃ : ρ₁.le ρ₃ := s₃.le g2
          cases p with
          | none =>
            cases h'
            exact hQ ρ₃ _ { a with defers := mark ++ a.defers } i₄ hst (ht.mono hle₃) (g5.mono hle₁₃)
          | some c =>
            exact hS c t n d₁ ro _ e t' d' σ' h' ρ₃ _ { a with defers := mark ++ a.defers } rl m Q i₄ (hg.mono hle₃) (ht.mono hle₃) (g5.mono hle₁₃) (hr.mono hle₃) fun ρ' w' a' i' s' t'' d'' => hQ ρ' w' a' i' (hst.trans s') t'' d''
        | _ => cases h
    · cases h
  | _ => cases h

theorem run_sound (hm : P.follows .mixedOrders = true) (k : Nat) : Sound P G (runX P G k) := by
  induction k using Nat.strongRecOn with
  | _ k ihk =>
    cases k with
    | zero => intro c t n d ro σ e t' d' σ' h; cases h
    | succ j =>
      have hS := ihk j (Nat.lt_succ_self j)
      intro c t n d ro σ e t' d' σ' h ρ w a rl m Q hi hg ht hd hr hQ
      have h : stepX P G (runX P G j) c t n d ro σ = .ok e t' d' σ' := h
      cases c with
      | skip => cases h; exact wpIn_skip (hQ ρ w a hi (Stp.refl _ _ _) ht hd)
      | label l => cases h; exact wpIn_label (hQ ρ w a hi (Stp.refl _ _ _) ht hd)
      | exit id => cases h; exact wpIn_exit (hQ ρ w a hi (Stp.refl _ _ _) ht hd)
      | ret => cases h; exact wpIn_ret (hQ ρ w a hi (Stp.refl _ _ _) ht hd)
      | region id ops draw =>
        cases draw with
        | false =>
          have h' : opsX P G (runX P G j) ops n d ops.toList t σ = .ok e t' d' σ' := h
          refine wpIn_region ?_
          have := ops_sound hS rl (m := m) (Q := Q) ops.toList 0 rfl t σ ρ w a h' hi hg ht hd hQ
          rw [List.range_eq_range']
          simpa using this
        | true =>
          have h' : drawX P G (runX P G j) ops n d t σ = .ok e t' d' σ' := h
          exact wpIn_region_any hm (draw_sound hS h' hi hg ht hd rl m hQ)
      | seq x y =>
        have h' : seqX (runX P G j x t n d ro σ) (fun t d σ => runX P G j y t n d ro σ) = .ok e t' d' σ' := h
        refine wpIn_seq ?_
        cases hx : runX P G j x t n d ro σ with
        | err q => rw [hx] at h'; cases h'
        | ok e₁ t₁ d₁ σ₁ =>
          rw [hx] at h'
          by_cases he : e₁ = .normal
          · subst he
            refine hS x t n d ro σ _ t₁ d₁ σ₁ hx ρ w a rl m _ hi hg ht hd hr fun ρ₁ w₁ a₁ i₁ s₁ ht₁ hd₁ => ?_
            have hle := s₁.le hi
            exact hS y t₁ n d₁ ro σ₁ e t' d' σ' h' ρ₁ w₁ a₁ rl m Q i₁ (hg.mono hle) ht₁ hd₁ (hr.mono hle) fun ρ' w' a' i' s' => hQ ρ' w' a' i' (s₁.trans s')
          · have h'' : CR.ok e₁ t₁ d₁ σ₁ = .ok e t' d' σ' := by cases e₁ <;> first | exact absurd rfl he | exact h'
            cases h''
            exact hS x t n d ro σ _ _ _ _ hx ρ w a rl m _ hi hg ht hd hr fun ρ₁ w₁ a₁ i₁ s₁ ht₁ hd₁ => then_other he (hQ ρ₁ w₁ a₁ i₁ s₁ ht₁ hd₁)
      | cond x y z =>
        have h' : condX (evalT G t x) (runX P G j y t n d ro σ) (runX P G j z t n d ro σ) = .ok e t' d' σ' := h
        unfold condX at h'
        split at h'
        · rename_i hv
          have := eval_sound (a := a) hg ht hv
          simp only [VR] at this
          exact wpIn_cond_true this (hS y t n d ro σ e t' d' σ' h' ρ w a rl m Q hi hg ht hd hr hQ)
        · rename_i hv
          have := eval_sound (a := a) hg ht hv
          simp only [VR] at this
          exact wpIn_cond_false this (hS z t n d ro σ e t' d' σ' h' ρ w a rl m Q hi hg ht hd hr hQ)
        · cases h'
      | block id x =>
        have h' : blockX id (runX P G j x t n d ro σ) = .ok e t' d' σ' := h
        refine wpIn_block ?_
        cases hx : runX P G j x t n d ro σ with
        | err q => rw [hx] at h'; cases h'
        | ok e₁ t₁ d₁ σ₁ =>
          rw [hx] at h'
          refine hS x t n d ro σ e₁ t₁ d₁ σ₁ hx ρ w a rl m _ hi hg ht hd hr fun ρ₁ w₁ a₁ i₁ s₁ ht₁ hd₁ => ?_
          cases e₁ with
          | exit q =>
            unfold blockX at h'
            dsimp only at h'
            rw [ite_cond] at h'
            split at h'
            · rename_i hq
              cases h'
              have := Nat.eq_of_beq_eq_true hq
              subst this
              simp only [exOf, Exit.inBlock, if_true]
              exact hQ ρ₁ w₁ a₁ i₁ s₁ ht₁ hd₁
            · rename_i hq
              cases h'
              have hne : ¬ q = id := fun e => hq (by rw [e]; exact Nat.beq_refl id)
              simp only [exOf, Exit.inBlock, if_neg hne]
              exact hQ ρ₁ w₁ a₁ i₁ s₁ ht₁ hd₁
          | normal => cases h'; exact hQ ρ₁ w₁ a₁ i₁ s₁ ht₁ hd₁
          | goto q => cases h'; exact hQ ρ₁ w₁ a₁ i₁ s₁ ht₁ hd₁
          | ret => cases h'; exact hQ ρ₁ w₁ a₁ i₁ s₁ ht₁ hd₁
      | loop x =>
        refine wpIn_loop_ghost (fun i a₁ w₁ => i ≤ j + 1 ∧ ∃ t₁ d₁ σ₁ ρ₁, runX P G i (.loop x) t₁ n d₁ ro σ₁ = .ok e t' d' σ' ∧ Inv ρ₁ σ₁ w₁ ∧ Stp ρ σ w ρ₁ σ₁ w₁ ∧ TR ρ₁ t₁ n a₁.tmps ∧ DR ρ₁ d₁ a₁.defers) (j + 1)
          ⟨Nat.le_refl _, t, d, σ, ρ, h, hi, Stp.refl _ _ _, ht, hd⟩ fun i a₁ w₁ hI => ?_
        obtain ⟨hij, t₁, d₁, σ₁, ρ₁, hrun, i₁, s₁, ht₁, hd₁⟩ := hI
        have hle := s₁.le hi
        cases i with
        | zero => cases hrun
        | succ i =>
          have hSi := ihk i (by omega)
          have h' : seqX (runX P G i x t₁ n d₁ ro σ₁) (fun t d σ => runX P G i (.loop x) t n d ro σ) = .ok e t' d' σ' := hrun
          cases hx : runX P G i x t₁ n d₁ ro σ₁ with
          | err q => rw [hx] at h'; cases h'
          | ok e₂ t₂ d₂ σ₂ =>
            rw [hx] at h'
            by_cases he : e₂ = .normal
            · subst he
              refine hSi x t₁ n d₁ ro σ₁ _ t₂ d₂ σ₂ hx ρ₁ w₁ a₁ rl m _ i₁ (hg.mono hle) ht₁ hd₁ (hr.mono hle) fun ρ₂ w₂ a₂ i₂ s₂ ht₂ hd₂ => ?_
              exact ⟨i, Nat.lt_succ_self i, by omega, t₂, d₂, σ₂, ρ₂, h', i₂, s₁.trans s₂, ht₂, hd₂⟩
            · have h'' : CR.ok e₂ t₂ d₂ σ₂ = .ok e t' d' σ' := by cases e₂ <;> first | exact absurd rfl he | exact h'
              cases h''
              exact hSi x t₁ n d₁ ro σ₁ _ _ _ _ hx ρ₁ w₁ a₁ rl m _ i₁ (hg.mono hle) ht₁ hd₁ (hr.mono hle) fun ρ₂ w₂ a₂ i₂ s₂ ht₂ hd₂ => then_other he (hQ ρ₂ w₂ a₂ i₂ (s₁.trans s₂) ht₂ hd₂)
      | rangeFunc g ps assign body => exact range_sound hS h hi hg ht hd hr hQ
      | _ => cases h

/-- **A CALL's ANSWER.** -/
theorem evalCall_sound (hm : P.follows .mixedOrders = true) {fuel f : Nat} {args : List AV} {σ σ' : AHeap} {v : AV} (h : evalCall P G fuel f args σ = .ret v σ') {ρ : Ren} {w : World} {xs : Array Value} (hi : Inv ρ σ w) (hg : GR ρ G) (hx : VRs ρ args xs.toList)
    {R : Ending → World → Prop} (hR : ∀ (ρ' : Ren) (w' : World) (x : Value), Inv ρ' σ' w' → Stp ρ σ w ρ' σ' w' → VR ρ' v x → R (.returned x) w') : Calls P f xs w R :=
  callsIn_wide.1 (call_sound (run_sound hm fuel) h hi hg hx none 0 hR)

/-- From no blocks at all. -/
def σ0 : AHeap := ⟨.xH, .leaf⟩
theorem inv0 (w : World) : Inv (fun _ => none) σ0 w :=
  ⟨fun b _ => ⟨rfl, PT.get_leaf b⟩, fun b l h => (by cases h), fun b o l _ h => (by cases h), fun b b' o o' l l' _ _ h => (by cases h)⟩
end
end Go.Ev

/- What a call leaves as it lay; the row's answer. -/
namespace Go.Ev
open Go.ChangeShapes Go.WideShapes Go.ChangeAt Go.RowKit

/-- What lay in memory lies as it lay; the outside is as it was. -/
structure Keeps (w w' : World) : Prop where
  os : w'.os = w.os
  out : w'.output = w.output
  size : w.heap.size ≤ w'.heap.size
  same : ∀ r : Nat, r < w.heap.size → w'.heap[r]? = w.heap[r]?

theorem Keeps.of_stp {w w' : World} {ρ ρ' : Ren} {σ' : AHeap} (h : Stp ρ σ0 w ρ' σ' w') : Keeps w w' :=
  ⟨h.os, h.out, h.size, fun r hr => h.frame r hr fun ⟨b, o, l, h1, _⟩ => by
    have : (PT.leaf : PT AObj).get b = some o := h1
    rw [PT.get_leaf] at this; cases this⟩

theorem Keeps.kept {w w' : World} (h : Keeps w w') (may : MemPlace → Prop) : w.keptBut w' may := by
  refine ⟨h.os, h.out, fun i hi => ?_⟩
  rw [h.same i hi]
  cases w.heap[i]? with
  | none => rfl
  | some o => cases o <;> first | exact ⟨rfl, rfl, rfl, fun _ _ => rfl⟩ | exact .inr ⟨rfl, rfl⟩ | rfl
theorem Keeps.frozen {w w' : World} (h : Keeps w w') (a : Addr) (ha : a.block < w.heap.size) : w'.frozen? a = w.frozen? a := by
  unfold World.frozen?
  rw [h.same a.block ha]

theorem post_keeps {H : Type} {enc : TypeId × Value → H} {P : Program} {f : Func} {s : ChangeSpec} {apart fresh handsOn again : Bool} {W W' : World} {args : Array Value} {v : Value} {ds gs : List (DataW H)} {before pa pv : List MemPlace}
    (hW : DataW.Whole enc P f.params.toList s.vars apart W args.toList ds gs before)
    (hres : ∀ (b : Nat) (sp : Nat → Bool) (hd : Bool), DataW.TrodAll enc P W' b sp hd f.resultTypes.toList (v.resultList f.resultTypes.size) (s.fn H (ds ++ gs)).results [])
    (hargs : ∀ sp : Nat → Bool, (∀ p ∈ before, sp p.block = true) → DataW.TrodAll enc P W' 0 sp true f.params.toList args.toList (s.fn H (ds ++ gs)).args pa)
    (hvars : ∀ sp : Nat → Bool, (∀ p ∈ before, sp p.block = true) → DataW.TrodVars enc P W' sp s.vars (s.fn H (ds ++ gs)).vars pv)
    (hps : before = pa ++ pv) (hk : Keeps W W')
    (hok : ∀ (j : Nat) (t : TypeId) (r : Value), f.resultTypes[j]? = some t → (v.resultList f.resultTypes.size)[j]? = some r → Value.okWide P W' .any 0 t r) :
    s.post enc P f apart fresh handsOn again W args v W' := by
  have hold : ∀ p ∈ before, (fun b => decide (b < W.heap.size)) p.block = true := fun p hp => by simpa using hW.lt p hp
  refine ⟨ds, gs, before, [], pa, pv, hW, hres _ _ _, hargs _ hold, hvars _ hold, hk.kept _, fun _ => ?_⟩
  have hlt := hW.lt
  obtain ⟨_, _, _, _, _, hz, hn⟩ := hW
  refine ⟨hok, _, _, ([] ++ pa) ++ pv, ⟨[] ++ pa, pv, trodAll_append (hargs _ (fun _ _ => rfl)) (hres _ _ _), hvars _ (fun _ _ => rfl), rfl, ?_, ?_⟩, ?_⟩
  · intro b off hp
    have hp' : MemPlace.cell b off ∈ before := by rw [hps]; simpa using hp
    rw [hk.frozen _ (hlt _ hp')]
    exact hz b off hp'
  · intro ha
    have := hn ha
    rw [hps] at this
    simpa using this
  · intro p hp _
    rw [hps]
    simpa using hp
end Go.Ev

