/- Walks and runs: what functions of the program come to, on the evaluator. Without conditions. -/
import Derived.Test.YtgmdncbbcgiomaaEd
set_option linter.unusedSectionVars false
set_option linter.unusedVariables false
set_option linter.unusedSimpArgs false
/- Maps from structs of integers to integers: walks' rules. -/
namespace Go.Ev
variable [Env]
abbrev LM := List (List Int × Int)
/-- The entries are the pairs. -/
inductive MapIs (n : Nat) : List AEnt → LM → Prop
 | nil : MapIs n [] []
 | cons {e : AEnt} {k : List Int} {v : Int} {es : List AEnt} {m : LM} : k.length = n → e.key = .agg (ints k) → e.val = .int .i64 v → MapIs n es m → MapIs n (e :: es) ((k, v) :: m)
noncomputable def lmAt : LM → List Int → Nat → Option (Nat × Int)
 | [], _, _ => none
 | (k', v) :: m, k, i => bif sameX k k' then some (i, v) else lmAt m k (i + 1)
noncomputable def lmGet (m : LM) (k : List Int) : Option Int := (lmAt m k 0).map (·.2)
noncomputable def lmPut (m : LM) (k : List Int) (v : Int) : LM :=
 match lmAt m k 0 with
 | some (i, _) => m.set i (k, v)
 | none => m ++ [(k, v)]
noncomputable def lmDel (m : LM) (k : List Int) : LM :=
 match lmAt m k 0 with
 | some (i, _) => m.eraseIdx i
 | none => m
theorem MapIs.length {n : Nat} {es : List AEnt} {m : LM} (h : MapIs n es m) : es.length = m.length := by
 induction h with
 | nil => rfl
 | cons _ _ _ _ ih => simp [ih]
theorem MapIs.set {n : Nat} {es : List AEnt} {m : LM} (h : MapIs n es m) {e : AEnt} {k : List Int} {v : Int} (h1 : k.length = n) (h2 : e.key = .agg (ints k)) (h3 : e.val = .int .i64 v) : ∀ i, MapIs n (es.set i e) (m.set i (k, v)) := by
 induction h with
 | nil => intro i; exact .nil
 | cons a b c d ih =>
  intro i
  cases i with
  | zero => exact .cons h1 h2 h3 d
  | succ i => exact .cons a b c (ih i)
theorem MapIs.snoc {n : Nat} {es : List AEnt} {m : LM} (h : MapIs n es m) {e : AEnt} {k : List Int} {v : Int} (h1 : k.length = n) (h2 : e.key = .agg (ints k)) (h3 : e.val = .int .i64 v) : MapIs n (es ++ [e]) (m ++ [(k, v)]) := by
 induction h with
 | nil => exact .cons h1 h2 h3 .nil
 | cons a b c d ih => exact .cons a b c ih
theorem MapIs.erase {n : Nat} {es : List AEnt} {m : LM} (h : MapIs n es m) : ∀ i, MapIs n (es.eraseIdx i) (m.eraseIdx i) := by
 induction h with
 | nil => intro i; exact .nil
 | cons a b c d ih =>
  intro i
  cases i with
  | zero => exact d
  | succ i => exact .cons a b c (ih i)
theorem MapIs.at {n : Nat} {es : List AEnt} {m : LM} (h : MapIs n es m) : ∀ {i : Nat} {k : List Int} {v : Int}, m[i]? = some (k, v) → ∃ e, es[i]? = some e ∧ k.length = n ∧ e.key = .agg (ints k) := by
 induction h with
 | nil => intro i k v hh; simp at hh
 | cons a b c d ih =>
  intro i k v hh
  cases i with
  | zero => simp at hh; obtain ⟨rfl, rfl⟩ := hh; exact ⟨_, rfl, a, b⟩
  | succ i => simpa using ih (by simpa using hh)
theorem delEnt_eq2 : ∀ (es : List AEnt) (i : Nat), delEnt es i = es.eraseIdx i
 | [], _ => rfl
 | _ :: _, 0 => rfl
 | e :: es, i + 1 => by
  show e :: delEnt es i = e :: es.eraseIdx i
  rw [delEnt_eq2 es i]
theorem lmAt_some : ∀ {m : LM} {k : List Int} {i j : Nat} {v : Int}, lmAt m k i = some (j, v) → i ≤ j ∧ m[j - i]? = some (k, v)
 | [], k, i, j, v, h => by cases h
 | (k', v') :: m, k, i, j, v, h => by
  have h' : (bif sameX k k' then some (i, v') else lmAt m k (i + 1)) = some (j, v) := h
  cases hs : sameX k k' with
  | true =>
   rw [hs] at h'
   cases h'
   rw [sameX_iff] at hs
   subst hs
   simp
  | false =>
   rw [hs] at h'
   obtain ⟨h1, h2⟩ := lmAt_some h'
   refine ⟨by omega, ?_⟩
   rw [show j - i = j - (i + 1) + 1 by omega]
   simpa using h2
theorem beqCells_ints : ∀ (xs : List Int), beqCells (ints xs) (ints xs) = true
 | [] => rfl
 | x :: xs => by
  have e : eqLeaf (.int .i64 x) (.int .i64 x) = some true := by
   show (bif eqK .i64 .i64 then some (eqI x x) else none) = some true
   rw [eqI_eq]; simp [eqK]
  show (match eqLeaf (.int .i64 x) (.int .i64 x) with | some true => beqCells (ints xs) (ints xs) | _ => false) = true
  rw [e]
  exact beqCells_ints xs
section
variable {P : Program}
theorem findA_is {t : TypeId} {fs : Array Field} {n : Nat} (hu : P.underlying t = some (.struct fs)) (hs : structInt P t n = true) {k : List Int} (hk : k.length = n) {es : List AEnt} {m : LM} (h : MapIs n es m) : ∀ i, findA P t (.agg (ints k)) es i = some ((lmAt m k i).map fun x => (x.1, .int .i64 x.2)) := by
 induction h with
 | nil => intro i; rfl
 | @cons e k' v es m a b c d ih =>
  intro i
  have hq : keyEq P t (.agg (ints k)) e.key = some (sameX k k') := by
   unfold keyEq
   rw [hu, b]
   exact eqA_ints hs hk a
  show (match keyEq P t (.agg (ints k)) e.key with
   | some true => some (some (i, e.val))
   | some false => findA P t (.agg (ints k)) es (i + 1)
   | none => none) = some (Option.map _ (bif sameX k k' then some (i, v) else lmAt m k (i + 1)))
  rw [hq]
  cases sameX k k' with
  | true => rw [c]; rfl
  | false => exact ih (i + 1)
/-- What a map's type is to be. -/
structure MapT (P : Program) (t kt et : TypeId) (n : Nat) : Prop where
 ty : P.underlying t = some (.map kt et)
 plain : plainKey P kt = true
 ints : structInt P kt n = true
 zero : zeroA P et = some (.int .i64 0)
 shape : ∀ k : List Int, k.length = n → keyShape P kt (.agg (Go.Ev.ints k)) = true
theorem structInt_under {t : TypeId} {n : Nat} (h : structInt P t n = true) : ∃ fs, P.underlying t = some (.struct fs) := by
 unfold structInt at h
 split at h
 ·rename_i fs hs
  unfold structOf at hs
  rw [underF_eq] at hs
  split at hs
  ·rename_i fs' hu
   exact ⟨_, hu⟩
  ·cases hs
 ·cases h
variable {G : Cx} {ev : Operand → Option AV} {σ : AHeap}
theorem x_mapUpd {t kt et : TypeId} {n : Nat} (hT : MapT P t kt et n) {b : Nat} {es : List AEnt} {ck : Nat} {m : LM} (hm : MapIs n es m) (hb : σ.m.get b = some (.map es ck)) {mo ko xo : Operand} {k : List Int} {v : Int} (hk : k.length = n) (h1 : ev mo = some (.map b)) (h2 : ev ko = some (.agg (ints k))) (h3 : ev xo = some (.int .i64 v)) :
  ∃ es' ck', opX P G ev σ (.mapUpdate t mo ko xo) = .skip (σ.setObj b (.map es' ck')) ∧ MapIs n es' (lmPut m k v) := by
 obtain ⟨fs, hu⟩ := structInt_under hT.ints
 have hf := findA_is hu hT.ints hk hm 0
 have key : ∃ es' ck', updateA P σ t (.map b) (.agg (ints k)) (.int .i64 v) = some (σ.setObj b (.map es' ck')) ∧ MapIs n es' (lmPut m k v) := by
  unfold updateA lmPut
  rw [hT.ty]
  dsimp only
  rw [hb]
  dsimp only
  rw [hT.plain, hT.shape k hk]
  simp only [Bool.and_self, cond_true]
  rw [hf]
  cases hl : lmAt m k 0 with
  | none => exact ⟨_, _, rfl, by rw [appN_eq]; exact hm.snoc hk rfl rfl⟩
  | some x =>
   obtain ⟨i, v0⟩ := x
   have hi := (lmAt_some hl).2
   rw [Nat.sub_zero] at hi
   obtain ⟨e, he, _, hk'⟩ := hm.at hi
   simp only [Option.map_some]
   rw [nth_eq, he]
   dsimp only
   have hs : sameKey e.key (.agg (ints k)) = true := by rw [hk']; exact beqCells_ints k
   rw [hs]
   exact ⟨_, _, rfl, by unfold setEnt; rw [setNth_eq]; exact hm.set (e := { key := .agg (ints k), val := .int .i64 v, born := e.born }) hk rfl rfl i⟩
 obtain ⟨es', ck', h4, h5⟩ := key
 refine ⟨es', ck', x_heavy rfl ?_, h5⟩
 simp only [heavyA, h1, h2, h3, h4]
theorem x_lookup {t kt et : TypeId} {n : Nat} (hT : MapT P t kt et n) {b : Nat} {es : List AEnt} {ck : Nat} {m : LM} (hm : MapIs n es m) (hb : σ.m.get b = some (.map es ck)) {mo ko : Operand} {k : List Int} (hk : k.length = n) (h1 : ev mo = some (.map b)) (h2 : ev ko = some (.agg (ints k))) :
  opX P G ev σ (.lookup t mo ko true) = .val (.tuple [.int .i64 ((lmGet m k).getD 0), .bool (lmGet m k).isSome]) σ := by
 obtain ⟨fs, hu⟩ := structInt_under hT.ints
 have hf := findA_is hu hT.ints hk hm 0
 refine x_read rfl ?_
 simp only [readA, hT.ty, h2, h1, hb, hT.plain, hT.shape k hk, Bool.and_self, cond_true, hf, hT.zero]
 unfold lmGet
 cases lmAt m k 0 with
 | none => rfl
 | some x => rfl
theorem x_delete {c : Call} {t kt et : TypeId} {n : Nat} (hT : MapT P t kt et n) {b : Nat} {es : List AEnt} {ck : Nat} {m : LM} (hm : MapIs n es m) (hb : σ.m.get b = some (.map es ck)) {mo ko : Operand} {k : List Int} (hk : k.length = n) (hc : c.callee = .builtin .delete) (ht : c.argTypes[0]? = some t) (ha : c.args.toList = [mo, ko]) (h1 : ev mo = some (.map b)) (h2 : ev ko = some (.agg (ints k))) :
  ∃ es', opX P G ev σ (.call c) = .val (.tuple []) (σ.setObj b (.map es' ck)) ∧ MapIs n es' (lmDel m k) := by
 obtain ⟨fs, hu⟩ := structInt_under hT.ints
 have hf := findA_is hu hT.ints hk hm 0
 have key : ∃ es', deleteA P σ c.argTypes (.map b) (.agg (ints k)) = some (σ.setObj b (.map es' ck)) ∧ MapIs n es' (lmDel m k) := by
  unfold deleteA lmDel
  rw [ht]
  dsimp only
  rw [hT.ty]
  dsimp only
  rw [hb]
  dsimp only
  rw [hT.plain, hT.shape k hk]
  simp only [Bool.and_self, cond_true]
  rw [hf]
  cases hl : lmAt m k 0 with
  | none => exact ⟨_, rfl, hm⟩
  | some x =>
   obtain ⟨i, v0⟩ := x
   exact ⟨_, rfl, by rw [delEnt_eq2]; exact hm.erase i⟩
 obtain ⟨es', h4, h5⟩ := key
 refine ⟨es', x_heavy (by simp [kindOf, hc]) ?_, h5⟩
 have he : evs ev [mo, ko] = some [.map b, .agg (ints k)] := by
  unfold evs allSome
  simp only [h1, h2]
 simp only [heavyA, hc, ha, he, h4]
theorem x_lenMap {c : Call} {t kt et : TypeId} {n : Nat} (hT : MapT P t kt et n) {b : Nat} {es : List AEnt} {ck : Nat} {m : LM} (hm : MapIs n es m) (hb : σ.m.get b = some (.map es ck)) {mo : Operand} (hc : c.callee = .builtin .len) (ht : c.argTypes[0]? = some t) (ha : c.args.toList = [mo]) (h1 : ev mo = some (.map b)) :
  opX P G ev σ (.call c) = .val (.int .i64 (.ofNat m.length)) σ := by
 refine x_read (by simp [kindOf, hc, isMap, ht, hT.ty]) ?_
 simp only [readA, hc, ht, ha, hT.ty, h1, hb, lenN_eq, hm.length]
end
section
variable {P : Program} {G : Cx} {n : Nat} {t : PT AV} {σ : AHeap} {K : KP} {L : Own} {Q : Ex → PT AV → AHeap → Prop} {ops : Array Oper} {o : Oper} {l : List Oper}
theorem o_map (hs : St σ K L) {t' : Nat → PT AV} (hw : wantedA ops t o = some true) (hv : opX P G (evalT G t) σ o.op = .val (.map σ.next) (σ.alloc (.map [] 0))) (hp : ∀ b, putT t n o.dst (.map b) = some (t' b))
  (h : ∀ (σ' : AHeap) (b : Nat), St σ' K ((b, .map [] 0) :: L) → EvOps P G ops n l (t' b) σ' Q) : EvOps P G ops n (o :: l) t σ Q :=
 eV hw hv (hp _) (h _ _ (hs.alloc _))
theorem x_makeMap {ev : Operand → Option AV} {ty : TypeId} : opX P G ev σ (.makeMap ty none) = .val (.map σ.next) (σ.alloc (.map [] 0)) := by
 exact x_alloc (op := .makeMap ty none) (mk := .map) (ob := .map [] 0) rfl rfl
theorem o_mapUpd1 {ty kt et : TypeId} {kn : Nat} (hT : MapT P ty kt et kn) {b : Nat} {es : List AEnt} {ck : Nat} {m : LM} {x : Nat × AObj} (hm : MapIs kn es m) (hs : St σ K (x :: (b, .map es ck) :: L)) {mo ko xo : Operand} {k : List Int} {v : Int} {t' : PT AV} (hk : k.length = kn) (hw : wantedA ops t o = some true) (ho : o.op = .mapUpdate ty mo ko xo)
  (h1 : evalT G t mo = some (.map b)) (h2 : evalT G t ko = some (.agg (ints k))) (h3 : evalT G t xo = some (.int .i64 v)) (hp : putT t n o.dst unit = some t')
  (h : ∀ σ' es' ck', St σ' K (x :: (b, .map es' ck') :: L) → MapIs kn es' (lmPut m k v) → EvOps P G ops n l t' σ' Q) : EvOps P G ops n (o :: l) t σ Q := by
 obtain ⟨es', ck', e1, e2⟩ := x_mapUpd (G := G) hT hm (hs.get 1 rfl) hk h1 h2 h3
 exact eK hw (by rw [ho]; exact e1) hp (h _ _ _ (hs.set1 _) e2)
theorem o_mapDel1 {c : Call} {ty kt et : TypeId} {kn : Nat} (hT : MapT P ty kt et kn) {b : Nat} {es : List AEnt} {ck : Nat} {m : LM} {x : Nat × AObj} (hm : MapIs kn es m) (hs : St σ K (x :: (b, .map es ck) :: L)) {mo ko : Operand} {k : List Int} {t' : PT AV} (hk : k.length = kn) (hw : wantedA ops t o = some true) (ho : o.op = .call c)
  (hc : c.callee = .builtin .delete) (ht : c.argTypes[0]? = some ty) (ha : c.args.toList = [mo, ko]) (h1 : evalT G t mo = some (.map b)) (h2 : evalT G t ko = some (.agg (ints k))) (hp : putT t n o.dst (.tuple []) = some t')
  (h : ∀ σ' es', St σ' K (x :: (b, .map es' ck) :: L) → MapIs kn es' (lmDel m k) → EvOps P G ops n l t' σ' Q) : EvOps P G ops n (o :: l) t σ Q := by
 obtain ⟨es', e1, e2⟩ := x_delete (G := G) hT hm (hs.get 1 rfl) hk hc ht ha h1 h2
 exact eV hw (by rw [ho]; exact e1) hp (h _ _ (hs.set1 _) e2)
end
end Go.Ev
namespace Go.Ev
variable [Env]
noncomputable def insE (t : Nat) (m : LM) (n : Nat) (e : XEv) : LM := bif writesB e then lmPut m [.ofNat (t + 1), .ofNat n] e.loc else m
noncomputable def insL (t : Nat) : List XEv → Nat → LM → LM
 | [], _, m => m
 | e :: l, n, m => insL t l (n + 1) (insE t m n e)
noncomputable def insT : List (List XEv) → Nat → LM → LM
 | [], _, m => m
 | l :: r, t, m => insT r (t + 1) (insL t l 0 m)
noncomputable def chkL (loc : Nat) : List XId → LM → Option LM
 | [], m => some m
 | id :: l, m => bif (lmGet m id.ints).isSome then (bif eqI ((lmGet m id.ints).getD 0) (.ofNat loc) then chkL loc l (lmDel m id.ints) else none) else none
noncomputable def chkO : List (List XId) → Nat → LM → Option LM
 | [], _, m => some m
 | l :: r, loc, m => (chkL loc l m).bind (chkO r (loc + 1))
noncomputable def rightOrderB (g : XG) : Bool :=
 match chkO g.order 0 (insT g.threads 0 []) with
 | some m => eqI (.ofNat m.length) 0
 | none => false
theorem drop_at {α : Type} {l : List α} {i : Nat} {x : α} (h : l[i]? = some x) : l.drop i = x :: l.drop (i + 1) := by
 obtain ⟨hlt, hx⟩ := List.getElem?_eq_some_iff.1 h
 rw [List.drop_eq_getElem_cons hlt, hx]
theorem drop_end {α : Type} {l : List α} {i : Nat} (h : l.length ≤ i) : l.drop i = [] := List.drop_eq_nil_of_le h
end Go.Ev
namespace Go.Ev
theorem not_t {b : Bool} (h : (!b) = true) : b = false := by cases b <;> simp_all
theorem not_f {b : Bool} (h : (!b) = false) : b = true := by cases b <;> simp_all
end Go.Ev
namespace Go.Ev
variable [Env]
def idxF {α : Type} (p : α → Bool) : List α → Nat → Int
 | [], _ => -1
 | x :: r, i => bif p x then .ofNat i else idxF p r (i + 1)
theorem idxF_any {α : Type} {p : α → Bool} : ∀ (l : List α) (i : Nat), (bif ltI (idxF p l i) 0 then false else true) = l.any p
 | [], _ => rfl
 | x :: r, i => by
  show (bif ltI (bif p x then .ofNat i else idxF p r (i + 1)) 0 then false else true) = _
  rw [List.any_cons]
  cases p x with
  | true => rfl
  | false => exact idxF_any r (i + 1)
noncomputable def okE (g : XG) (t n : Nat) (e : XEv) (f : XId) : Bool := bif rightEvB e (.ofNat g.init.length) then rightFromB g ⟨.ofNat (t + 1), .ofNat n⟩ f else false
noncomputable def rowB (g : XG) (t : Nat) : List XEv → List XId → Nat → Bool
 | e :: l, f :: q, n => bif okE g t n e f then rowB g t l q (n + 1) else false
 | [], _, _ => true
 | _ :: _, [], _ => false
noncomputable def rowsB (g : XG) : List (List XEv) → List (List XId) → Nat → Bool
 | l :: r, f :: q, t => bif eqI (.ofNat f.length) (.ofNat l.length) then (bif rowB g t l f 0 then rowsB g r q (t + 1) else false) else false
 | [], _, _ => true
 | _ :: _, [], _ => false
noncomputable def checkI (g : XG) : Int :=
 bif tooLongB g then 3 else bif eqI (.ofNat g.from_.length) (.ofNat g.threads.length) then (bif eqI (.ofNat g.order.length) (.ofNat g.init.length) then (bif rowsB g g.threads g.from_ 0 then (bif rightOrderB g then 0 else 2) else 2) else 2) else 2
end Go.Ev

/- Appends to slices of one's own; clones. -/
namespace Go.Ev
variable [Env]
theorem overlay_nil (l : List AV) : overlay [] l = l := rfl
theorem splice_nil : ∀ (l : List AV) (off : Nat), splice [] l off = l
 | [], _ => rfl
 | x :: l, 0 => rfl
 | x :: l, off + 1 => by
  show x :: splice [] l off = x :: l
  rw [splice_nil l off]
/-- May such elements be appended? -/
noncomputable def appT (P : Program) (e : TypeId) (m : Nat) : Bool :=
 match P.info? e with
 | some j => Nat.beq j.size m && (Nat.ble 1 j.size && (Nat.ble j.bytes 65536 && ((j.zero.bind ofVal).any fun z => (cellsA z).any fun cs => Nat.beq (lenN cs) j.size)))
 | none => false
theorem allLeaf_app : ∀ (l r : List AV), allLeaf l = true → allLeaf r = true → allLeaf (l ++ r) = true
 | [], r, _, h => h
 | v :: l, r, h, h' => by
  have h1 : (bif leafB v then allLeaf l else false) = true := h
  cases hv : leafB v with
  | false => rw [hv] at h1; cases h1
  | true => rw [hv] at h1; exact lC hv (allLeaf_app l r h1 h')
theorem leaf_pieces {m : Nat} : ∀ (n : Nat) (cells : List AV), cells.length = n * m → (∀ i, i < n → allLeaf ((cells.drop (i * m)).take m) = true) → allLeaf cells = true
 | 0, cells, h, _ => by
  rw [Nat.zero_mul] at h
  rw [List.eq_nil_of_length_eq_zero h]; rfl
 | n + 1, cells, h, hh => by
  have e : cells = cells.take m ++ cells.drop m := (List.take_append_drop m cells).symm
  rw [Nat.succ_mul] at h
  rw [e]
  refine allLeaf_app _ _ (by have := hh 0 (by omega); rwa [Nat.zero_mul, List.drop_zero] at this) (leaf_pieces (m := m) n (cells.drop m) (by rw [List.length_drop]; omega) fun i hi => ?_)
  have := hh (i + 1) (by omega)
  rwa [show (i + 1) * m = m + i * m by rw [Nat.succ_mul, Nat.add_comm], ← List.drop_drop] at this
section
variable {P : Program} {G : Cx} {σ : AHeap} {K : KP} {L : Own}
/-- What a slice that lies hands to an append. -/
theorem source_of {α : Type} {m : Nat} {R : α → List AV → Prop} {l : List α} {v : AV} (hst : St σ K L) (h : HasS K m R l v) (hleaf : ∀ x vs, R x vs → allLeaf vs = true) :
  ∃ news, sourceA σ m v = some (l.length, news) ∧ news.length = l.length * m ∧ allLeaf news = true ∧ ∀ (i : Nat) (x : α), l[i]? = some x → R x ((news.drop (i * m)).take m) := by
 rcases h with ⟨rfl, rfl⟩ | ⟨b, off, c, cells, e, ro, rfl, h2, h3, h4, h5, h6⟩
 ·exact ⟨[], rfl, (Nat.zero_mul m).symm, rfl, fun i x hx => by simp at hx⟩
 ·have hR : ∀ (i : Nat) (x : α), l[i]? = some x → R x ((((cells.drop off).take (l.length * m)).drop (i * m)).take m) := fun i x hx => by
   have hlt : i < l.length := (List.getElem?_eq_some_iff.1 hx).1
   have hle : (i + 1) * m ≤ l.length * m := Nat.mul_le_mul_right _ hlt
   rw [Nat.succ_mul] at hle
   rw [List.drop_take, List.take_take, Nat.min_eq_left (by omega), List.drop_drop]
   exact h6 i x hx
  have hn : ((cells.drop off).take (l.length * m)).length = l.length * m := by rw [List.length_take, List.length_drop]; omega
  refine ⟨(cells.drop off).take (l.length * m), ?_, hn, leaf_pieces l.length _ hn fun i hi => hleaf _ _ (hR i l[i] (List.getElem?_eq_getElem hi)), hR⟩
  unfold sourceA
  dsimp only
  rw [hst.getK h3]
  dsimp only
  rw [lenN_eq, show Nat.ble (off + l.length * m) cells.length = true by rw [Nat.ble_eq]; exact h4, takeN_eq, dropN_eq]
  rfl
/-- An append to a slice of one's own that is full. -/
theorem x_append {α : Type} {m e : Nat} {R : α → List AV → Prop} {l2 : List α} {v2 : AV} {b len1 e1 : Nat} {cells1 : List AV} {c : Cap} {ts : Array TypeId} {t : TypeId} (hs : St σ K ((b, .row cells1 e1 false) :: L)) (hx : HasS K m R l2 v2) (hleaf : ∀ x vs, R x vs → allLeaf vs = true) (hn : l2.length ≤ 1048576)
  (hc1 : cells1.length = len1 * m) (hl1 : len1 ≤ 1048576) (hcap : c = .known len1 ∨ (c = .upto m ∧ e1 = e)) (ht : ts[0]? = some t) (hu : P.underlying t = some (.slice e)) (ha : appT P e m = true) (h2 : sliceOrStr P ts[1]? = true) :
  ∃ σ' b' c' news e', appendA P σ ts (.slice b 0 len1 c) v2 = .val (.slice b' 0 (len1 + l2.length) c') σ' ∧ St σ' K ((b', .row (cells1 ++ news) e' false) :: L) ∧ news.length = l2.length * m ∧ (∀ (i : Nat) (x : α), l2[i]? = some x → R x ((news.drop (i * m)).take m)) ∧ (c' = .known (len1 + l2.length) ∨ (c' = .upto m ∧ e' = e)) := by
 obtain ⟨news, s1, s2, s3, s4⟩ := source_of hs hx hleaf
 unfold appT at ha
 split at ha
 ·rename_i j hj
  simp only [Bool.and_eq_true] at ha
  obtain ⟨a1, a2, a3, a4⟩ := ha
  have hm : j.size = m := Nat.eq_of_beq_eq_true a1
  subst hm
  have hz : ((P.info? e).any fun j => (j.zero.bind ofVal).any fun z => (cellsA z).any fun cs => Nat.beq (lenN cs) j.size) = true := by rw [hj]; exact a4
  have hb := hs.get 0 rfl
  unfold appendA
  rw [ht]
  dsimp only
  rw [hu]
  dsimp only
  rw [hj]
  dsimp only
  rw [h2, a2, a3]
  simp only [Bool.and_self, cond_true]
  rw [s1]
  dsimp only
  rw [hj] at hz
  rw [s3, show Nat.ble l2.length 1048576 = true by rw [Nat.ble_eq]; exact hn, hz]
  simp only [Bool.and_self, cond_true]
  have hle : Nat.ble (0 + len1 * j.size) (lenN cells1) = true := by rw [Nat.ble_eq, lenN_eq, hc1]; omega
  have htake : takeN (dropN cells1 0) (len1 * j.size) = cells1 := by rw [takeN_eq, dropN_eq, List.drop_zero, ← hc1, List.take_length]
  have hl1' : Nat.ble len1 1048576 = true := by rw [Nat.ble_eq]; exact hl1
  rcases hcap with rfl | ⟨rfl, rfl⟩
  ·dsimp only
   by_cases h0 : l2.length = 0
   ·have hnews : news = [] := List.eq_nil_of_length_eq_zero (by rw [s2, h0, Nat.zero_mul])
    subst hnews
    rw [h0, show Nat.ble (len1 + 0) len1 = true by rw [Nat.ble_eq]; exact Nat.le_refl _]
    simp only [cond_true]
    rw [hb]
    dsimp only
    rw [show Nat.ble (0 + len1 * j.size + lenN []) (lenN cells1) = true by rw [Nat.ble_eq, lenN_eq, lenN_eq, hc1]; simp]
    simp only [cond_true]
    refine ⟨_, b, .known len1, [], e1, rfl, ?_, by simp, s4, .inl rfl⟩
    rw [splice_nil, List.append_nil]
    exact hs.set0 _
   ·have : Nat.ble (len1 + l2.length) len1 = false := by
     cases hh : Nat.ble (len1 + l2.length) len1 with
     | false => rfl
     | true => rw [Nat.ble_eq] at hh; omega
    rw [this]
    simp only [cond_false]
    rw [hb]
    dsimp only
    rw [hle, hl1', htake, appN_eq]
    simp only [Bool.and_self, cond_true]
    refine ⟨_, _, _, news, e, rfl, ?_, s2, s4, .inr ⟨rfl, rfl⟩⟩
    exact ((hs.alloc _).perm (List.Perm.swap ..)).pop
  ·dsimp only
   by_cases h0 : l2.length = 0
   ·have hnews : news = [] := List.eq_nil_of_length_eq_zero (by rw [s2, h0, Nat.zero_mul])
    subst hnews
    rw [h0]
    exact ⟨_, b, .upto j.size, [], e1, rfl, by rw [List.append_nil]; exact hs, by simp, s4, .inr ⟨rfl, rfl⟩⟩
   ·have : Nat.beq l2.length 0 = false := by
     cases hh : Nat.beq l2.length 0 with
     | false => rfl
     | true => exact absurd (Nat.eq_of_beq_eq_true hh) h0
    rw [this, Nat.beq_refl, hl1']
    simp only [Bool.and_self, cond_true, cond_false]
    rw [hb]
    dsimp only
    have hnot : Nat.ble (0 + len1 * j.size + lenN news) (lenN cells1) = false := by
     cases hh : Nat.ble (0 + len1 * j.size + lenN news) (lenN cells1) with
     | false => rfl
     | true =>
      rw [Nat.ble_eq, lenN_eq, lenN_eq, hc1, s2] at hh
      have h1 : 1 ≤ j.size := by simpa [Nat.ble_eq] using a2
      have : 1 ≤ l2.length * j.size := Nat.mul_pos (by omega) h1
      omega
    rw [hnot, Bool.and_false]
    simp only [cond_false]
    rw [hle, Nat.beq_refl, htake, appN_eq]
    simp only [Bool.and_self, cond_true]
    exact ⟨_, _, _, news, e1, rfl, hs.regrow _, s2, s4, .inr ⟨rfl, rfl⟩⟩
 ·cases ha
end
section
variable {P : Program} {G : Cx} {n : Nat} {t : PT AV} {σ : AHeap} {K : KP} {L : Own} {Q : Ex → PT AV → AHeap → Prop} {ops : Array Oper} {o : Oper} {l : List Oper}
theorem x_appendOp {ev : Operand → Option AV} {cl : Call} {so xo : Operand} {s x : AV} {r : HR} (hc : cl.callee = .builtin .append) (ha : cl.args.toList = [so, xo]) (h1 : ev so = some s) (h2 : ev xo = some x) (hsl : sliceOrStr P cl.argTypes[1]? = true) (h : appendA P σ cl.argTypes s x = r) : opX P G ev σ (.call cl) = r := by
 refine x_heavy (by simp [kindOf, hc]) ?_
 have he : evs ev [so, xo] = some [s, x] := by
  unfold evs allSome
  simp only [h1, h2]
 simp only [heavyA, hc, ha, he, hsl, cond_true]
 exact h
theorem o_append {α : Type} {m e : Nat} {R : α → List AV → Prop} {l2 : List α} {v2 : AV} {b len1 e1 : Nat} {cells1 : List AV} {c : Cap} {ty : TypeId} {cl : Call} {so xo : Operand} {t' : AV → PT AV} (hs : St σ K ((b, .row cells1 e1 false) :: L)) (hx : HasS K m R l2 v2) (hleaf : ∀ x vs, R x vs → allLeaf vs = true) (hn : l2.length ≤ 1048576)
  (hc1 : cells1.length = len1 * m) (hl1 : len1 ≤ 1048576) (hcap : c = .known len1 ∨ (c = .upto m ∧ e1 = e)) (hw : wantedA ops t o = some true) (ho : o.op = .call cl) (hcl : cl.callee = .builtin .append) (hargs : cl.args.toList = [so, xo]) (ht : cl.argTypes[0]? = some ty) (hu : P.underlying ty = some (.slice e)) (ha : appT P e m = true) (h2 : sliceOrStr P cl.argTypes[1]? = true)
  (e1' : evalT G t so = some (.slice b 0 len1 c)) (e2' : evalT G t xo = some v2) (hp : ∀ v, putT t n o.dst v = some (t' v))
  (h : ∀ (σ' : AHeap) (b' : Nat) (c' : Cap) (news : List AV) (e' : Nat), St σ' K ((b', .row (cells1 ++ news) e' false) :: L) → news.length = l2.length * m → (∀ (i : Nat) (x : α), l2[i]? = some x → R x ((news.drop (i * m)).take m)) → (c' = .known (len1 + l2.length) ∨ (c' = .upto m ∧ e' = e)) → EvOps P G ops n l (t' (.slice b' 0 (len1 + l2.length) c')) σ' Q) : EvOps P G ops n (o :: l) t σ Q := by
 obtain ⟨σ', b', c', news, e', k1, k2, k3, k4, k5⟩ := x_append (P := P) hs hx hleaf hn hc1 hl1 hcap ht hu ha h2
 refine eV hw ?_ (hp _) (h σ' b' c' news e' k2 k3 k4 k5)
 rw [ho]
 exact x_appendOp hcl hargs e1' e2' h2 k1
end
end Go.Ev
namespace Go.Ev
variable [Env]
section
variable {P : Program} {G : Cx} {n : Nat} {t : PT AV} {σ : AHeap} {K : KP} {L : Own} {Q : Ex → PT AV → AHeap → Prop} {ops : Array Oper} {o : Oper} {l : List Oper}
/-- The first k elements. -/
theorem sliceTo_of {α : Type} {m e k : Nat} {kk : IntKind} {R : α → List AV → Prop} {la : List α} {v : AV} {ty : TypeId} {ev : Operand → Option AV} {xo hi : Operand} (h : HasS K m R la v) (hk : k ≤ la.length) (hu : P.underlying ty = some (.slice e)) (hj : (P.info? e).map (·.size) = some m) (hx : ev xo = some v) (hh : ev hi = some (.int kk (.ofNat k))) :
  ∃ w, sliceA P ev ty xo none (some hi) none = some w ∧ HasS K m R (la.take k) w := by
 cases hq : P.info? e with
 | none => rw [hq] at hj; cases hj
 | some j =>
 rw [hq] at hj
 have hj : j.size = m := by simpa using hj
 subst hj
 have hlen : (la.take k).length = k := by rw [List.length_take]; omega
 have hb : ∀ y, k ≤ y → boundA ev hi y = some k := fun y hy => by
  unfold boundA
  rw [hh]
  dsimp only
  rw [show Nat.ble k y = true by rw [Nat.ble_eq]; exact hy]; rfl
 rcases h with ⟨rfl, rfl⟩ | ⟨b, off, c, cells, e', ro, rfl, h2, h3, h4, h5, h6⟩
 ·have hk0 : k = 0 := by simpa using hk
  subst hk0
  refine ⟨.nilSlice, ?_, .inl ⟨by simp, rfl⟩⟩
  unfold sliceA
  rw [hu, hx]
  dsimp only
  unfold boundsA
  dsimp only
  rw [hb 0 (Nat.le_refl _), hq]
 ·have fin : ∀ c', CapOK j.size k c' → HasS K j.size R (la.take k) (.slice b off k c') := fun c' hc' => by
   refine .inr ⟨b, off, c', cells, e', ro, by rw [hlen], by rw [hlen]; exact hc', h3, ?_, by rw [hlen]; omega, fun i x hx' => ?_⟩
   ·rw [hlen]
    have : k * j.size ≤ la.length * j.size := Nat.mul_le_mul_right _ hk
    omega
   ·rw [List.getElem?_take] at hx'
    split at hx'
    ·exact h6 i x hx'
    ·cases hx'
  rcases h2 with rfl | ⟨cp, rfl, hcp⟩
  ·refine ⟨.slice b off k (.upto j.size), ?_, fin _ (.inl rfl)⟩
   unfold sliceA
   rw [hu, hx]
   dsimp only
   unfold boundsA
   dsimp only
   rw [hb _ hk, hq]
   dsimp only
   rw [Nat.beq_refl, Nat.zero_mul, Nat.add_zero, Nat.sub_zero]
   rfl
  ·refine ⟨.slice b off k (.known cp), ?_, fin _ (.inr ⟨cp, rfl, by omega⟩)⟩
   unfold sliceA
   rw [hu, hx]
   dsimp only
   unfold cutAt boundsA
   dsimp only
   rw [hb _ (by omega)]
   dsimp only
   unfold cut
   rw [hq]
   dsimp only
   rw [Nat.sub_zero, Nat.sub_zero, Nat.zero_mul, Nat.add_zero]
   cases Nat.beq cp 0 <;> rfl
theorem o_sliceTo {α : Type} {m e k : Nat} {kk : IntKind} {R : α → List AV → Prop} {la : List α} {v : AV} {ty : TypeId} {xo hi : Operand} {t' : AV → PT AV} (h : HasS K m R la v) (hk : k ≤ la.length) (hw : wantedA ops t o = some true) (ho : o.op = .slice ty xo none (some hi) none)
  (hu : P.underlying ty = some (.slice e)) (hj : (P.info? e).map (·.size) = some m) (hx : evalT G t xo = some v) (hh : evalT G t hi = some (.int kk (.ofNat k))) (hp : ∀ v, putT t n o.dst v = some (t' v))
  (hc : ∀ w, HasS K m R (la.take k) w → EvOps P G ops n l (t' w) σ Q) : EvOps P G ops n (o :: l) t σ Q := by
 obtain ⟨w, h1, h2⟩ := sliceTo_of (P := P) h hk hu hj hx hh
 refine eV hw ?_ (hp w) (hc w h2)
 rw [ho]
 exact xU rfl h1
end
/-! What a right graph is bounded by. -/
theorem check_bounds {g : XG} (h : checkI g = 0) : g.threads.length ≤ 4 ∧ g.init.length ≤ 6 ∧ (∀ l ∈ g.threads, l.length ≤ 14) ∧ g.from_.length = g.threads.length ∧ g.order.length = g.init.length ∧ rowsB g g.threads g.from_ 0 = true ∧ rightOrderB g = true := by
 unfold checkI at h
 cases h1 : tooLongB g with
 | true => rw [h1] at h; cases h
 | false =>
  rw [h1] at h
  simp only [cond_false] at h
  cases h2 : eqI (.ofNat g.from_.length) (.ofNat g.threads.length) with
  | false => rw [h2] at h; cases h
  | true =>
   rw [h2] at h
   simp only [cond_true] at h
   cases h3 : eqI (.ofNat g.order.length) (.ofNat g.init.length) with
   | false => rw [h3] at h; cases h
   | true =>
    rw [h3] at h
    simp only [cond_true] at h
    cases h4 : rowsB g g.threads g.from_ 0 with
    | false => rw [h4] at h; cases h
    | true =>
     rw [h4] at h
     simp only [cond_true] at h
     cases h5 : rightOrderB g with
     | false => rw [h5] at h; cases h
     | true =>
      unfold tooLongB at h1
      cases k1 : ltI 4 (.ofNat g.threads.length) with
      | true => rw [k1] at h1; cases h1
      | false =>
       rw [k1] at h1
       simp only [cond_false] at h1
       cases k2 : ltI 6 (.ofNat g.init.length) with
       | true => rw [k2] at h1; cases h1
       | false =>
        rw [k2] at h1
        simp only [cond_false] at h1
        refine ⟨lt_no (a := 4) k1, lt_no (a := 6) k2, fun l hl => ?_, len_of h2, len_of h3, rfl, rfl⟩
        have := List.any_eq_false.1 h1 l hl
        exact lt_no (a := 14) (by simpa using this)
theorem wr_addN {a b : Nat} (h : a + b ≤ 9223372036854775807) : wr .i64 (Int.add (.ofNat a) (.ofNat b)) = .ofNat (a + b) := by
 show (bif Nat.ble (a + b) 9223372036854775807 then _ else _) = _
 rw [show Nat.ble (a + b) 9223372036854775807 = true by rw [Nat.ble_eq]; exact h]
 rfl
def sumLen {α : Type} (ls : List (List α)) : Nat := (ls.map List.length).sum
theorem sumLen_step {α : Type} {ls : List (List α)} {i : Nat} {x : List α} (h : ls[i]? = some x) : sumLen (ls.take (i + 1)) = sumLen (ls.take i) + x.length := by
 unfold sumLen
 rw [List.take_add_one, h]
 simp
theorem sumLen_le {α : Type} : ∀ {ls : List (List α)} {b : Nat}, (∀ l ∈ ls, l.length ≤ b) → sumLen ls ≤ ls.length * b
 | [], _, _ => Nat.zero_le _
 | l :: ls, b, h => by
  have h1 := h l (List.mem_cons_self ..)
  have h2 := sumLen_le (ls := ls) (b := b) fun x hx => h x (List.mem_cons_of_mem _ hx)
  have e : sumLen (l :: ls) = l.length + sumLen ls := by unfold sumLen; simp
  rw [e, List.length_cons, Nat.succ_mul]
  omega
theorem sumLen_take {α : Type} {ls : List (List α)} {b : Nat} (h : ∀ l ∈ ls, l.length ≤ b) (i : Nat) : sumLen (ls.take i) ≤ ls.length * b := by
 have h1 := sumLen_le (ls := ls.take i) (b := b) fun x hx => h x (List.mem_of_mem_take hx)
 have h2 : (ls.take i).length * b ≤ ls.length * b := Nat.mul_le_mul_right _ (by rw [List.length_take]; omega)
 omega
noncomputable def countG (g : XG) : Nat := bif eqI (checkI g) 0 then g.init.length + sumLen g.threads else 0
end Go.Ev
namespace Go.Ev
variable [Env]
theorem eq0 {a : Int} (h : eqI a 0 = true) : a = 0 := by rw [eqI_eq] at h; exact of_decide_eq_true h
theorem wr_subN {a b : Nat} (h : b ≤ a) (h' : a ≤ 9223372036854775807) : wr .i64 (Int.sub (.ofNat a) (.ofNat b)) = .ofNat (a - b) := by
 have e : Int.sub (.ofNat a) (.ofNat b) = .ofNat (a - b) := by
  show ((a : Nat) : Int) - (b : Int) = ((a - b : Nat) : Int)
  omega
 rw [e]
 show (bif Nat.ble (a - b) 9223372036854775807 then _ else _) = _
 rw [show Nat.ble (a - b) 9223372036854775807 = true by rw [Nat.ble_eq]; omega]
 rfl
theorem evAt_nat {g : XG} {th ix : Int} (h : (evAt g ⟨th, ix⟩).isSome = true) : ∃ t i : Nat, th = .ofNat t ∧ ix = .ofNat i ∧ t ≤ g.threads.length ∧ (t = 0 → i < g.init.length) ∧ ∀ m, t = m + 1 → ∃ l, g.threads[m]? = some l ∧ i < l.length := by
 cases th with
 | negSucc t => cases h
 | ofNat t => cases ix with
  | negSucc i => cases t <;> cases h
  | ofNat i =>
   refine ⟨t, i, rfl, rfl, ?_, ?_, ?_⟩
   ·cases t with
    | zero => exact Nat.zero_le _
    | succ t =>
     have h : ((g.threads[t]?).bind (·[i]?)).isSome = true := h
     cases hl : g.threads[t]? with
     | none => rw [hl] at h; cases h
     | some l => exact (List.getElem?_eq_some_iff.1 hl).1
   ·rintro rfl
    have h : ((g.init[i]?).map fun v => (⟨2, i, 1, 0, v⟩ : XEv)).isSome = true := h
    cases hl : g.init[i]? with
    | none => rw [hl] at h; cases h
    | some l => exact (List.getElem?_eq_some_iff.1 hl).1
   ·rintro m rfl
    have h : ((g.threads[m]?).bind (·[i]?)).isSome = true := h
    cases hl : g.threads[m]? with
    | none => rw [hl] at h; cases h
    | some l =>
     rw [hl] at h
     have h : (l[i]?).isSome = true := h
     refine ⟨l, rfl, ?_⟩
     cases hh : l[i]? with
     | none => rw [hh] at h; cases h
     | some x => exact (List.getElem?_eq_some_iff.1 hh).1
def numN (g : XG) : Nat → Nat → Nat
 | 0, i => i
 | t + 1, i => g.init.length + i + sumLen (g.threads.take t)
noncomputable def numG (g : XG) (id : XId) : Int :=
 bif eqI (checkI g) 0 then (bif (evAt g id).isSome then .ofNat (numN g id.thread.toNat id.index.toNat) else -1) else -1
def goT : List (List XEv) → Nat → Nat → Option XId
 | [], _, _ => none
 | l :: r, t, n => if n < l.length then some ⟨.ofNat (t + 1), .ofNat n⟩ else goT r (t + 1) (n - l.length)
def atN (g : XG) (n : Nat) : Option XId := if n < g.init.length then some ⟨0, .ofNat n⟩ else goT g.threads 0 (n - g.init.length)
noncomputable def atG (g : XG) (n : Int) : Option XId := bif eqI (checkI g) 0 then (bif ltI n 0 then none else atN g n.toNat) else none
def idD (x : Option XId) : XId := x.getD ⟨0, 0⟩
noncomputable def eventG (g : XG) (id : XId) : Option XEv := bif eqI (checkI g) 0 then evAt g id else none
theorem goT_yes {ls : List (List XEv)} {i t n : Nat} {x : List XEv} (h : ls[i]? = some x) (hn : n < x.length) : goT (ls.drop i) t n = some ⟨.ofNat (t + 1), .ofNat n⟩ := by
 rw [drop_at h]
 show (if n < x.length then _ else _) = _
 rw [if_pos hn]
theorem goT_no {ls : List (List XEv)} {i t n : Nat} {x : List XEv} (h : ls[i]? = some x) (hn : x.length ≤ n) : goT (ls.drop i) t n = goT (ls.drop (i + 1)) (t + 1) (n - x.length) := by
 rw [drop_at h]
 show (if n < x.length then _ else _) = _
 rw [if_neg (by omega)]
end Go.Ev

/- Function values without arguments whose answers are told; blocks of one's own are left for good; comparisons. -/
namespace Go.Ev
variable [Env]
section
variable {σ : AHeap} {K K' : KP} {L : Own}
theorem St.weaken (h : St σ K' L) (hk : KP.le K K') : St σ K L where
 kept b o hb := h.kept b o (hk b o hb)
 own := h.own
 ne := h.ne
def KP.adds (K : KP) (M : Own) : KP := fun b o => K b o ∨ (b, o) ∈ M
theorem KP.le_adds (K : KP) (M : Own) : KP.le K (K.adds M) := fun _ _ h => .inl h
theorem KP.adds_get {M : Own} (k : Nat) {b : Nat} {o : AObj} (h : M[k]? = some (b, o)) : K.adds M b o := .inr (List.mem_of_getElem? h)
theorem St.keeps {M : Own} (h : St σ K (M ++ L)) : St σ (K.adds M) L where
 kept b o hb := by
  rcases hb with hb | hb
  ·exact h.pops.kept b o hb
  ·obtain ⟨h1, h2⟩ := h.own _ (List.mem_append_left _ hb)
   exact ⟨h1, h2, fun e he hh => (List.pairwise_append.1 h.ne).2.2 _ hb e he hh.symm⟩
 own e he := h.own e (List.mem_append_right _ he)
 ne := (List.pairwise_append.1 h.ne).2.1
theorem pts_row {b e : Nat} {ro : Bool} {cells : List AV} (h : K b (.row cells e ro)) : PtsTo K (.ptr b 0) cells := ⟨b, 0, cells, e, ro, rfl, h, by omega, by simp⟩
end
section
variable {P : Program} {G : Cx} {K K' : KP}
/-- A function value that asks for nothing and answers an integer. -/
def RFun (P : Program) (G : Cx) (K : KP) (n : Int) (vs : List AV) : Prop :=
 ∃ (f : Nat) (ca : List AV), vs = [.func f [] ca] ∧ isGo P f = true ∧ ∀ (σ : AHeap) (L : Own), St σ K L → EvCall P G f ca σ fun v σ' => v = .int .i64 n ∧ St σ' K L
def RFuns (P : Program) (G : Cx) (K : KP) (l : List Int) (cells : List AV) : Prop := l.length = cells.length ∧ ∀ (i : Nat) (x : Int), l[i]? = some x → ∃ c, cells[i]? = some c ∧ RFun P G K x [c]
theorem RFuns.nil : RFuns P G K [] [] := ⟨rfl, fun i x h => by simp at h⟩
theorem RFuns.cons {x : Int} {l : List Int} {c : AV} {cells : List AV} (h : RFun P G K x [c]) (hs : RFuns P G K l cells) : RFuns P G K (x :: l) (c :: cells) := by
 refine ⟨by simp [hs.1], fun i y hy => ?_⟩
 cases i with
 | zero => simp only [List.getElem?_cons_zero, Option.some.injEq] at hy; subst hy; exact ⟨c, rfl, h⟩
 | succ i => exact hs.2 i y (by simpa using hy)
theorem RFuns.slice {l : List Int} {cells : List AV} (h : RFuns P G K l cells) {b e n c : Nat} (hk : K b (.row cells e false)) (hn : l.length = n) (hc : n ≤ c) (hl : n ≤ 9223372036854775807) : HasS K 1 (RFun P G K) l (.slice b 0 n (.known c)) := by
 subst hn
 refine .inr ⟨b, 0, _, cells, e, false, rfl, .inr ⟨_, rfl, hc⟩, hk, by rw [h.1]; omega, hl, fun i x hx => ?_⟩
 obtain ⟨c, hc, hr⟩ := h.2 i x hx
 have : (cells.drop (0 + i * 1)).take 1 = [c] := by
  obtain ⟨hlt, rfl⟩ := List.getElem?_eq_some_iff.1 hc
  rw [show 0 + i * 1 = i from by omega, List.drop_eq_getElem_cons hlt]; rfl
 rw [this]; exact hr
/-- What is kept for a call alone. -/
theorem call_keeps {f : Nat} {args : List AV} {σ : AHeap} {M L : Own} {u : AV} (h : EvCall P G f args σ fun v σ' => v = u ∧ St σ' (K.adds M) L) : EvCall P G f args σ fun v σ' => v = u ∧ St σ' K L :=
 h.mono fun _ _ ⟨a, b⟩ => ⟨a, b.weaken (K.le_adds M)⟩
theorem x_buildS {ev : Operand → Option AV} {σ : AHeap} {t e : TypeId} {len m : Nat} {parts : Array (Nat × Operand)} {z cs : List AV} (ht : P.underlying t = some (.slice e)) (hj : (P.info? e).map (·.size) = some m) (hz : (zeroA P e).bind cellsA = some z)
  (hb : (Nat.beq (lenN z) m && Nat.ble (len * m) 16777216 && Nat.ble 1 m) = true) (hf : fillA (fun i => some (i * m, m)) ev parts.toList (timesN z len) = some cs) : opX P G ev σ (.buildSlice t len parts) = .val (.slice σ.next 0 len (.known len)) (σ.alloc (.row cs e false)) := by
 refine x_alloc (mk := .slice len len) rfl ?_
 obtain ⟨j, hj', rfl⟩ := Option.map_eq_some_iff.1 hj
 simp only [allocA, ht, hj', hz, hb, cond_true, hf]
end
section
variable {P : Program} {G : Cx} {n : Nat} {t : PT AV} {σ : AHeap} {K : KP} {L : Own} {Q : Ex → PT AV → AHeap → Prop} {ops : Array Oper} {o : Oper} {l : List Oper} {ix : Nat} {lp : List (Nat × List Nat)}
end

theorem beqA_int (k : IntKind) (n : Int) : beqA (.int k n) (.int k n) = true := by
 unfold Go.Ev.beqA
 exact beq1_int k n
theorem beqA_str (s : List Nat) : beqA (.str s) (.str s) = true := by
 unfold Go.Ev.beqA
 exact beq1_str s
theorem beqA_bool (b : Bool) : beqA (.bool b) (.bool b) = true := by
 unfold Go.Ev.beqA
 exact beq1_bool b
theorem HasS.beqA {α : Type} {K : KP} {m : Nat} {R : α → List AV → Prop} {l : List α} {v : AV} (h : HasS K m R l v) : Go.Ev.beqA v v = true := by
 have hb := h.beq1
 rcases h with ⟨_, rfl⟩ | ⟨b, off, c, cells, e, ro, rfl, hc, _⟩ <;> exact hb
/-! Comparisons. -/
def cmpZ (x y : Int) : Int := bif ltI x y then -1 else bif ltI y x then 1 else 0
def fnz : List Int → Int
 | [] => 0
 | x :: l => bif eqI x 0 then fnz l else x
def cmpL {α : Type} (c : α → α → Int) : List α → List α → Int
 | [], [] => 0
 | [], _ :: _ => -1
 | _ :: _, [] => 1
 | x :: l, y :: m => bif eqI (c x y) 0 then cmpL c l m else c x y
theorem nan_i (n : Int) : (bif eqI n n then false else true) = false := by rw [eqI_eq]; simp
theorem cmpL_more {α : Type} {c : α → α → Int} : ∀ {l m : List α} {i : Nat} {x : α}, l[i]? = some x → m.length ≤ i → cmpL c (l.drop i) (m.drop i) = 1 := by
 intro l m i x h hm
 rw [drop_at h, drop_end hm]; rfl
theorem cmpL_less {α : Type} {c : α → α → Int} {l m : List α} {i : Nat} (h : l.length ≤ i) (hm : i ≤ l.length) (hl : l.length < m.length) : cmpL c (l.drop i) (m.drop i) = -1 := by
 obtain ⟨y, hy⟩ := at_of (show i < m.length by omega)
 rw [drop_end h, drop_at hy]; rfl
theorem cmpL_end {α : Type} {c : α → α → Int} {l m : List α} {i : Nat} (h : l.length ≤ i) (hl : m.length ≤ l.length) : cmpL c (l.drop i) (m.drop i) = 0 := by
 rw [drop_end h, drop_end (by omega)]; rfl
theorem cmpL_step {α : Type} {c : α → α → Int} {l m : List α} {i : Nat} {x y : α} (hx : l[i]? = some x) (hy : m[i]? = some y) (h : eqI (c x y) 0 = true) : cmpL c (l.drop i) (m.drop i) = cmpL c (l.drop (i + 1)) (m.drop (i + 1)) := by
 rw [drop_at hx, drop_at hy]; show (bif eqI (c x y) 0 then _ else _) = _; rw [h]; rfl
theorem cmpL_stop {α : Type} {c : α → α → Int} {l m : List α} {i : Nat} {x y : α} (hx : l[i]? = some x) (hy : m[i]? = some y) (h : eqI (c x y) 0 = false) : cmpL c (l.drop i) (m.drop i) = c x y := by
 rw [drop_at hx, drop_at hy]; show (bif eqI (c x y) 0 then _ else _) = _; rw [h]; rfl
def cmpLen {α : Type} (a b : List α) : Int := cmpZ (.ofNat a.length) (.ofNat b.length)
def cmpId (a b : XId) : Int := fnz [cmpZ a.thread b.thread, cmpZ a.index b.index]
def cmpEv (a b : XEv) : Int := fnz [cmpZ a.kind b.kind, cmpZ a.loc b.loc, cmpZ a.order b.order, cmpZ a.read b.read, cmpZ a.write b.write]
def cmpIds (a b : List XId) : Int := fnz [cmpLen a b, cmpL cmpId a b]
def cmpG (a b : XG) : Int := fnz [cmpLen a.threads b.threads, cmpL cmpLen a.threads b.threads, cmpL (cmpL cmpEv) a.threads b.threads, cmpLen a.from_ b.from_, cmpL cmpIds a.from_ b.from_, cmpLen a.order b.order, cmpL cmpIds a.order b.order, cmpLen a.init b.init, cmpL cmpZ a.init b.init]
end Go.Ev

/- Lists copied into blocks of one's own. -/
namespace Go.Ev
variable [Env]
/-- A list copied: a slice into a block of one's own, or nil. -/
def OwnS {α : Type} (m E : Nat) (R : α → List AV → Prop) (l : List α) (u : AV) (M : Own) : Prop :=
 (l = [] ∧ u = .nilSlice ∧ M = []) ∨ ∃ (b : Nat) (c : Cap) (cells : List AV) (e : Nat), u = .slice b 0 l.length c ∧ M = [(b, .row cells e false)] ∧ cells.length = l.length * m ∧ (∀ (i : Nat) (x : α), l[i]? = some x → R x ((cells.drop (i * m)).take m)) ∧ (c = .known l.length ∨ (c = .upto m ∧ e = E)) ∧ l.length ≤ 1048576
inductive OwnSs {α : Type} (m E : Nat) (R : α → List AV → Prop) : List (List α) → List AV → Own → Prop
 | nil : OwnSs m E R [] [] []
 | snoc {ls : List (List α)} {us : List AV} {M M1 : Own} {l : List α} {u : AV} : OwnSs m E R ls us M → OwnS m E R l u M1 → OwnSs m E R (ls ++ [l]) (us ++ [u]) (M1 ++ M)
section
variable {α : Type} {m E : Nat} {R : α → List AV → Prop} {l : List α} {u : AV} {M : Own} {K : KP} {ls : List (List α)} {us : List AV}
theorem OwnS.leaf (h : OwnS m E R l u M) : cellsA u = some [u] ∧ leafB u = true := by
 rcases h with ⟨_, rfl, _⟩ | ⟨b, c, cells, e, rfl, _⟩ <;> exact ⟨rfl, rfl⟩
theorem OwnS.hasS (h : OwnS m E R l u M) (hk : ∀ e ∈ M, K e.1 e.2) : HasS K m R l u := by
 rcases h with ⟨h1, h2, _⟩ | ⟨b, c, cells, e, rfl, rfl, h3, h4, h5, h6⟩
 ·exact .inl ⟨h1, h2⟩
 ·refine .inr ⟨b, 0, c, cells, e, false, rfl, ?_, hk _ (List.mem_cons_self ..), by omega, by omega, fun i x hx => by rw [Nat.zero_add]; exact h4 i x hx⟩
  rcases h5 with h5 | h5
  ·exact .inr ⟨_, h5, Nat.le_refl _⟩
  ·exact .inl h5.1
theorem OwnSs.length (h : OwnSs m E R ls us M) : us.length = ls.length := by
 induction h with
 | nil => rfl
 | snoc _ _ ih => simp [ih]
theorem OwnSs.at (h : OwnSs m E R ls us M) : ∀ {i : Nat} {l : List α}, ls[i]? = some l → ∃ u M1 A B, us[i]? = some u ∧ OwnS m E R l u M1 ∧ M = A ++ (M1 ++ B) ∧ ∀ l' u' M1', OwnS m E R l' u' M1' → OwnSs m E R (ls.set i l') (us.set i u') (A ++ (M1' ++ B)) := by
 induction h with
 | nil => intro i l h; simp at h
 | @snoc ls us M M1 l u h h1 ih =>
  intro i x hx
  have hl := h.length
  by_cases hi : i < ls.length
  ·rw [List.getElem?_append_left hi] at hx
   obtain ⟨u0, M0, A, B, k1, k2, rfl, k4⟩ := ih hx
   refine ⟨u0, M0, M1 ++ A, B, by rw [List.getElem?_append_left (by omega)]; exact k1, k2, by simp, fun l' u' M' h' => ?_⟩
   rw [List.set_append_left _ _ hi, List.set_append_left _ _ (by omega), List.append_assoc]
   exact .snoc (k4 l' u' M' h') h1
  ·have hlt := (List.getElem?_eq_some_iff.1 hx).1
   rw [List.length_append, List.length_singleton] at hlt
   obtain rfl : i = ls.length := by omega
   rw [List.getElem?_append_right (Nat.le_refl _), Nat.sub_self] at hx
   simp only [List.getElem?_cons_zero, Option.some.injEq] at hx
   subst hx
   refine ⟨u, M1, [], M, by rw [List.getElem?_append_right (by omega), hl, Nat.sub_self]; rfl, h1, rfl, fun l' u' M' h' => ?_⟩
   rw [List.set_append_right _ _ (Nat.le_refl _), List.set_append_right _ _ (by omega), hl, Nat.sub_self]
   exact OwnSs.snoc (M1 := M') (M := M) h h'
theorem OwnSs.each (h : OwnSs m E R ls us M) (hk : ∀ e ∈ M, K e.1 e.2) : ∀ (i : Nat) (l : List α), ls[i]? = some l → ∃ u, us[i]? = some u ∧ HasS K m R l u := by
 intro i l hl
 obtain ⟨u, M1, A, B, h1, h2, rfl, _⟩ := h.at hl
 exact ⟨u, h1, h2.hasS fun e he => hk e (by simp [he])⟩
theorem OwnSs.hasS (h : OwnSs m E R ls us M) (hk : ∀ e ∈ M, K e.1 e.2) {b e n : Nat} (hb : K b (.row us e false)) (hn : n = ls.length) (hl : ls.length ≤ 1048576) : HasS K 1 (RL K m R) ls (.slice b 0 n (.known n)) := by
 subst hn
 refine .inr ⟨b, 0, _, us, e, false, rfl, .inr ⟨_, rfl, Nat.le_refl _⟩, hb, by rw [h.length]; omega, by omega, fun i x hx => ?_⟩
 obtain ⟨u, h1, h2⟩ := h.each hk i x hx
 refine ⟨u, ?_, h2⟩
 obtain ⟨hlt, rfl⟩ := List.getElem?_eq_some_iff.1 h1
 rw [show 0 + i * 1 = i from by omega, List.drop_eq_getElem_cons hlt]; rfl
end
section
variable {σ : AHeap} {K : KP} {L M : Own} {b : Nat} {o : AObj}
theorem St.getMid (h : St σ K (M ++ (b, o) :: L)) : σ.m.get b = some o := (h.own (b, o) (by simp)).2
theorem St.setMid (h : St σ K (M ++ (b, o) :: L)) (o' : AObj) : St (σ.setObj b o') K (M ++ (b, o') :: L) := ((h.perm List.perm_middle).set0 o').perm List.perm_middle.symm
theorem timesN_rep (v : AV) : ∀ n, timesN [v] n = List.replicate n v
 | 0 => rfl
 | n + 1 => by
  show appN [v] (timesN [v] n) = _
  rw [appN_eq, timesN_rep v n]; rfl
theorem row_put {us : List AV} {u v : AV} {n i : Nat} (hu : us.length = i) (hi : i < n) : splice [u] (us ++ List.replicate (n - i) v) (0 + i * 1) = (us ++ [u]) ++ List.replicate (n - (i + 1)) v := by
 obtain ⟨k, hk⟩ : ∃ k, n - i = k + 1 := ⟨n - i - 1, by omega⟩
 rw [hk, show n - (i + 1) = k by omega, show 0 + i * 1 = us.length by omega, splice_eq _ _ _ (by simp), List.take_left, List.length_singleton, ← List.drop_drop, List.drop_left, List.replicate_succ]
 rfl
end
section
variable {P : Program} {G : Cx} {ev : Operand → Option AV} {σ : AHeap}
theorem x_makeS {t e w n : Nat} {k k' : IntKind} {z : List AV} {lo co : Operand} (ht : P.underlying t = some (.slice e)) (hw : (P.info? e).map (·.bytes) = some w) (hz : (zeroA P e).bind cellsA = some z)
  (hs : ((P.info? e).any fun j => Nat.beq (lenN z) j.size && Nat.ble 1 j.size) = true) (hl : ev lo = some (.int k (.ofNat n))) (hc : ev co = some (.int k' (.ofNat n))) (hn : w * n ≤ 1048576) (hn' : n ≤ 1048576) :
  opX P G ev σ (.makeSlice t lo co) = .val (.slice σ.next 0 n (.known n)) (σ.alloc (.row (timesN z n) e false)) := by
 refine x_alloc (mk := .slice n n) rfl ?_
 obtain ⟨j, hj, rfl⟩ := Option.map_eq_some_iff.1 hw
 rw [hj] at hs
 simp only [Option.any_some, Bool.and_eq_true] at hs
 simp only [allocA, ht, hl, hc, hj, hz]
 rw [hs.1, hs.2, show Nat.ble n n = true by rw [Nat.ble_eq]; exact Nat.le_refl _, show Nat.ble (j.bytes * n) 1048576 = true by rw [Nat.ble_eq]; exact hn, show Nat.ble n 1048576 = true by rw [Nat.ble_eq]; exact hn']
 rfl
end
theorem RInt.leaf : ∀ x vs, RInt x vs → allLeaf vs = true := fun _ _ h => by cases h; rfl
theorem REv.leaf : ∀ x vs, REv x vs → allLeaf vs = true := fun _ _ h => by cases h; rfl
theorem RId.leaf : ∀ x vs, RId x vs → allLeaf vs = true := fun _ _ h => by cases h; rfl
end Go.Ev
namespace Go.Ev
variable [Env]
/-- The block b of the list holds o' now. -/
inductive OwnPut (b : Nat) (o' : AObj) : Own → Own → Prop
 | here {o : AObj} {L : Own} : OwnPut b o' ((b, o) :: L) ((b, o') :: L)
 | there {x : Nat × AObj} {L L' : Own} : OwnPut b o' L L' → OwnPut b o' (x :: L) (x :: L')
 | seg {M L L' : Own} : OwnPut b o' L L' → OwnPut b o' (M ++ L) (M ++ L')
section
variable {σ : AHeap} {K : KP} {L L' : Own} {b : Nat} {o' : AObj}
theorem OwnPut.mid (h : OwnPut b o' L L') : ∃ A B o, L = A ++ (b, o) :: B ∧ L' = A ++ (b, o') :: B := by
 induction h with
 | here => exact ⟨[], _, _, rfl, rfl⟩
 | @there x L L' h ih => obtain ⟨A, B, o, rfl, rfl⟩ := ih; exact ⟨x :: A, B, o, rfl, rfl⟩
 | @seg M L L' h ih => obtain ⟨A, B, o, rfl, rfl⟩ := ih; exact ⟨M ++ A, B, o, by simp, by simp⟩
theorem St.upd (h : St σ K L) (hu : OwnPut b o' L L') : St (σ.setObj b o') K L' := by
 obtain ⟨A, B, o, rfl, rfl⟩ := hu.mid
 exact h.setMid o'
theorem St.sub (h : St σ K L) (hs : L'.Sublist L) : St σ K L' where
 kept b o hb := let ⟨h1, h2, h3⟩ := h.kept b o hb; ⟨h1, h2, fun e he => h3 e (hs.subset he)⟩
 own e he := h.own e (hs.subset he)
 ne := h.ne.sublist hs
theorem sub_seg {M L L' : Own} (h : L'.Sublist L) : (M ++ L').Sublist (M ++ L) := (List.append_sublist_append_left M).2 h
end
section
variable {P : Program} {G : Cx} {n : Nat} {t : PT AV} {σ : AHeap} {K : KP} {L : Own} {Q : Ex → PT AV → AHeap → Prop} {ops : Array Oper} {o : Oper} {l : List Oper} {i : Nat} {rc : List Nat} {lp : List (Nat × List Nat)}
theorem o_setU {b : Nat} {ob' : AObj} {L' : Own} {t' : PT AV} (hs : St σ K L) (hu : OwnPut b ob' L L') (hw : wantedA ops t o = some true) (hv : opX P G (evalT G t) σ o.op = .skip (σ.setObj b ob')) (hp : putT t n o.dst unit = some t')
  (h : ∀ σ', St σ' K L' → EvOps P G ops n l t' σ' Q) : EvOps P G ops n (o :: l) t σ Q := eK hw hv hp (h _ (hs.upd hu))
theorem p_setU {b : Nat} {ob' : AObj} {L' : Own} {t' : PT AV} (hs : St σ K L) (hu : OwnPut b ob' L L') (hi0 : ops[i]? = some o) (hw : wantedA ops t o = some true) (hv : opX P G (evalT G t) σ o.op = .skip (σ.setObj b ob')) (hp : putT t n o.dst unit = some t')
  (h : ∀ σ', St σ' K L' → (stillAll P G ops t' σ' rc = true ∧ EvPlan P G ops n lp t' σ' Q)) : EvPlan P G ops n ((i, rc) :: lp) t σ Q := evPlan_skipR hi0 hw hv hp (h _ (hs.upd hu))
end
section
variable {P : Program} {t : PT AV} {σ : AHeap}
theorem results_cell1 {fn : Func} {j ty b m e : Nat} {ro : Bool} {cells : List AV} (hr : fn.results.toList = [.cell j ty]) (h1 : t.get j = some (.ptr b 0)) (hm : σ.m.get b = some (.row cells e ro)) (ha : aggOf P ty = some (some m)) (hn : cells.length = m) : resultsA P fn t σ = some (.agg cells) := by
 unfold resultsA
 rw [hr]
 have e1 : resultA P t σ (.cell j ty) = some (AV.agg cells) := by
  show (match t.get (posOf j) with
   | some (.ptr b off) => match σ.m.get b with
    | some (.row cells _ _) => match aggOf P ty with
     | some (some n) => bif Nat.ble (off + n) (lenN cells) then some (AV.agg (takeN (dropN cells off) n)) else none
     | some none => nth cells off
     | none => none
    | _ => none
   | _ => none) = _
  rw [show t.get (posOf j) = some (.ptr b 0) from h1]
  dsimp only
  rw [hm]
  dsimp only
  rw [ha]
  dsimp only
  rw [lenN_eq, hn, Nat.zero_add, show Nat.ble m m = true by rw [Nat.ble_eq]; exact Nat.le_refl _, takeN_eq, dropN_eq, List.drop_zero, ← hn, List.take_length]
  rfl
 have : allSome (resultA P t σ) [.cell j ty] = some [AV.agg cells] := by
  unfold allSome
  simp only [e1]
 rw [this]
theorem end_cell1 {fn : Func} {R : AV → AHeap → Prop} {j ty b m e : Nat} {ro : Bool} {cells : List AV} (hr : fn.results.toList = [.cell j ty]) (h1 : t.get j = some (.ptr b 0)) (hm : σ.m.get b = some (.row cells e ro)) (ha : aggOf P ty = some (some m)) (hn : cells.length = m) (hR : R (.agg cells) σ) : endQ P fn R .ret t σ :=
 ⟨.inr rfl, _, results_cell1 hr h1 hm ha hn, hR⟩
end
end Go.Ev
namespace Go.Ev
variable [Env]
/-- What an append leaves, as a list of one's own. -/
theorem ownS_app {α : Type} {m E : Nat} {R : α → List AV → Prop} {l1 l2 : List α} {cells1 news : List AV} {b e : Nat} {c : Cap} {n : Nat} (hc1 : cells1.length = l1.length * m) (h1 : ∀ (i : Nat) (x : α), l1[i]? = some x → R x ((cells1.drop (i * m)).take m)) (hl2 : news.length = l2.length * m) (h2 : ∀ (i : Nat) (x : α), l2[i]? = some x → R x ((news.drop (i * m)).take m))
  (hn : n = l1.length + l2.length) (hc : c = .known n ∨ (c = .upto m ∧ e = E)) (hle : n ≤ 1048576) : OwnS m E R (l1 ++ l2) (.slice b 0 n c) [(b, .row (cells1 ++ news) e false)] := by
 subst hn
 refine .inr ⟨b, c, _, e, by rw [List.length_append], rfl, by rw [List.length_append, List.length_append, hc1, hl2, Nat.add_mul], fun i x hx => ?_, by rw [List.length_append]; exact hc, by rw [List.length_append]; exact hle⟩
 by_cases hi : i < l1.length
 ·rw [List.getElem?_append_left hi] at hx
  have hle : (i + 1) * m ≤ l1.length * m := Nat.mul_le_mul_right _ hi
  rw [Nat.succ_mul] at hle
  rw [List.drop_append_of_le_length (by omega), List.take_append_of_le_length (by rw [List.length_drop]; omega)]
  exact h1 i x hx
 ·rw [List.getElem?_append_right (by omega)] at hx
  have hle : l1.length * m ≤ i * m := Nat.mul_le_mul_right _ (by omega)
  rw [List.drop_append, List.drop_eq_nil_of_le (by omega), List.nil_append, hc1, ← Nat.sub_mul]
  exact h2 _ x hx
noncomputable def writesG (g : XG) (loc : Int) : List XId :=
 bif eqI (checkI g) 0 then (bif ltI loc 0 then [] else match g.order[loc.toNat]? with | some l => ⟨0, loc⟩ :: l | none => []) else []
theorem writesG_none {g : XG} {loc : Int} (h : eqI (checkI g) 0 = false) : writesG g loc = [] := by unfold writesG; rw [h]; rfl
theorem writesG_neg {g : XG} {loc : Int} (h : ltI loc 0 = true) : writesG g loc = [] := by unfold writesG; rw [h]; cases eqI (checkI g) 0 <;> rfl
theorem writesG_big {g : XG} {loc : Nat} (h : g.order.length ≤ loc) : writesG g (.ofNat loc) = [] := by
 unfold writesG
 cases eqI (checkI g) 0 with
 | false => rfl
 | true =>
  cases ltI (.ofNat loc) 0 with
  | true => rfl
  | false =>
   show (match g.order[(Int.ofNat loc).toNat]? with | some l => _ | none => _) = _
   rw [show (Int.ofNat loc).toNat = loc from rfl, List.getElem?_eq_none h]
theorem writesG_at {g : XG} {loc : Nat} {l : List XId} (hc : eqI (checkI g) 0 = true) (h : g.order[loc]? = some l) : writesG g (.ofNat loc) = ⟨0, .ofNat loc⟩ :: l := by
 have e : (Int.ofNat loc).toNat = loc := rfl
 have e2 : ltI (.ofNat loc) 0 = false := by rw [show (0 : Int) = .ofNat 0 from rfl, ltI_nat]; simp
 unfold writesG
 rw [hc, e2, e, h]; rfl
end Go.Ev
namespace Go.Ev
variable [Env]
theorem x_min {P : Program} {G : Cx} {ev : Operand → Option AV} {σ : AHeap} {c : Call} {x y : Operand} {a b : Int} {k : IntKind} (hc : c.callee = .builtin .min) (ha : c.args.toList = [x, y]) (hx : ev x = some (.int k a)) (hy : ev y = some (.int k b)) : opX P G ev σ (.call c) = .val (.int k (bif ltI b a then b else a)) σ := by
 refine xU (by simp [kindOf, hc]) ?_
 have e : eqK k k = true := by cases k <;> rfl
 simp only [pureA, hc, ha, hx, hy, minI, e, cond_true]
end Go.Ev

/- slices.Insert: the one function that asks for a capacity. Cells of lists of Ids; slices, copies, appends of zeroes; both runs. -/
namespace Go.Ev
variable [Env]
section
variable {P : Program} {G : Cx}
/-- A body's answer, whatever the caller. -/
def EvIn (P : Program) (G : Cx) (f : Nat) (args : List AV) (σ : AHeap) (R : AV → AHeap → Prop) : Prop :=
 ∃ (K : Nat) (v : AV) (σ' : AHeap), (∀ k, K ≤ k → callC P G (runX P G k) f args σ = .ret v σ') ∧ R v σ'
theorem ev_in {f : Nat} {fn : Func} {c : Code} {args : List AV} {σ : AHeap} {R : AV → AHeap → Prop} {t : PT AV} (hf : P.funcs[f]? = some fn) (hb : fn.body = some c) (ha : argsT fn.ntmps args = some t)
  (h : Ev P G c fn.ntmps t σ (endQ P fn R)) : EvIn P G f args σ R := by
 obtain ⟨K, e, t', σ', h1, he, v, h2, h3⟩ := h
 refine ⟨K, v, σ', fun k hk => ?_, h3⟩
 unfold callC
 rw [hf]
 dsimp only
 rw [hb, ha]
 dsimp only
 rw [h1 k hk]
 rcases he with rfl | rfl <;>
 ·dsimp only
  unfold endX
  rw [show leaveX P G (runX P G k) [] .ret σ' = some (.ret, σ') from rfl]
  dsimp only
  rw [h2]
theorem call_fk {f : Nat} {args : List AV} {σ : AHeap} {k : Nat} (hktb : G.ktb f args σ = none) (htbl : G.tbl f args = none) (hmem : findM G.gl G.laid G.mem f args σ = none) (hstop : G.stop f args σ = none) (hfk : G.fk f = true) :
  callX P G (runX P G k) f args σ = noPanK (forkY P G (runX P G k) f args σ) := by
 unfold callX
 rw [hktb]
 dsimp only
 rw [htbl]
 dsimp only
 rw [hmem]
 dsimp only
 rw [hstop]
 dsimp only
 rw [hfk]
 rfl
/-- It does not come to the question. -/
theorem ev_fork1 {f : Nat} {args : List AV} {σ : AHeap} {R : AV → AHeap → Prop} (hG : Plain G) (hfk : G.fk f = true) (he : ∀ ih, forkY P G ih f args σ = callC P G ih f args σ) (h : EvIn P G f args σ R) (hl : Nat.beq f livN = false := by rfl) : EvCall P G f args σ R := by
 obtain ⟨K, v, σ', h1, h2⟩ := h
 refine ⟨K, v, σ', fun k hk => ?_, h2⟩
 rw [call_fk (hG.h1 _ _ _) (hG.h2 _ _ hl) (by rw [hG.h3]; rfl) (hG.h4 _ _ _) hfk, he, h1 k hk]
 rfl
theorem eqFlats_ints : ∀ (l : List Int), eqFlats (ints l) (ints l) = true
 | [] => rfl
 | x :: l => by
  show (bif (eqK .i64 .i64 && eqI x x) then eqFlats (ints l) (ints l) else false) = true
  rw [eqFlats_ints l, eqI_eq]; simp [eqK]
theorem allFlat_ints : ∀ (l : List Int), allFlat (ints l) = true
 | [] => rfl
 | x :: l => by
  show (bif flatB (.int .i64 x) then allFlat (ints l) else false) = true
  rw [allFlat_ints l]; rfl
theorem ints_length : ∀ (l : List Int), (ints l).length = l.length
 | [] => rfl
 | x :: l => by show (ints l).length + 1 = l.length + 1; rw [ints_length l]
theorem forkRes_of {vb ve e sz b1 n1 : Nat} {vc rs : List Int} {c : Cap} {σ1 : AHeap} {cs1 : List AV} {ok : Cap → Nat → Bool} (hok : ok c n1 = true) (hne : b1 ≠ vb) (h1 : σ1.m.get b1 = some (.row cs1 e false)) (h2 : σ1.m.get vb = some (.row (ints vc) ve false)) (hn1 : 1 ≤ n1) (hl : n1 * sz ≤ cs1.length) (ht : cs1.take (n1 * sz) = ints rs) :
  forkRes vb (ints vc) ve e sz (.ret (.slice b1 0 n1 c) σ1) ok = some (n1, ints rs) := by
 have hs : samePos b1 vb = false := by
  unfold samePos
  cases hh : Nat.beq b1 vb with
  | false => rfl
  | true => exact absurd (Nat.eq_of_beq_eq_true hh) hne
 unfold forkRes
 dsimp only
 rw [h1, h2]
 dsimp only
 rw [hok, hs, eqFlats_ints, Nat.beq_refl, Nat.beq_refl, show Nat.ble 1 n1 = true by rw [Nat.ble_eq]; exact hn1, lenN_eq, Nat.zero_add, show Nat.ble (n1 * sz) cs1.length = true by rw [Nat.ble_eq]; exact hl, takeN_eq, dropN_eq, List.drop_zero, ht, allFlat_ints]
 rfl
/-- Both runs on the two blocks alone: the same list comes out. -/
theorem ev_fork2 {f : Nat} {σ : AHeap} {R : AV → AHeap → Prop} (hG : Plain G) (hfk : G.fk f = true) {b n sz i vb mc e ve : Nat} {cells : List AV} {vc rs : List Int} {n1 : Nat} (hn : 1 ≤ n) (hi : i < n) (hne : b ≠ vb) (hb : σ.m.get b = some (.row cells e false)) (hvb : σ.m.get vb = some (.row (ints vc) ve false)) (hc : n * sz ≤ cells.length)
  (hn1 : 1 ≤ n1) (hrs : rs.length = n1 * sz)
  (h1 : EvIn P G f [.slice b 0 n (.known n), .int .i64 (.ofNat i), .slice vb 0 1 (.known mc)] (twoBlocks σ b (.row cells e false) vb (.row (ints vc) ve false)) fun v σ' => ∃ b1 cs1, v = .slice b1 0 n1 (.upto sz) ∧ b1 ≠ vb ∧ σ'.m.get b1 = some (.row cs1 e false) ∧ σ'.m.get vb = some (.row (ints vc) ve false) ∧ n1 * sz ≤ cs1.length ∧ cs1.take (n1 * sz) = ints rs)
  (h2 : EvIn P G f [.slice b 0 n (.least (Nat.succ n) sz), .int .i64 (.ofNat i), .slice vb 0 1 (.known mc)] (twoBlocks σ b (.row (cells.take (n * sz) ++ List.replicate sz .any) e false) vb (.row (ints vc) ve false)) fun v σ' => ∃ b1 a cs1, v = .slice b1 0 n1 (.least a sz) ∧ n1 ≤ a ∧ b1 ≠ vb ∧ σ'.m.get b1 = some (.row cs1 e false) ∧ σ'.m.get vb = some (.row (ints vc) ve false) ∧ n1 * sz ≤ cs1.length ∧ cs1.take (n1 * sz) = ints rs)
  (hR : R (.slice σ.next 0 n1 (.upto sz)) ((σ.drop b).alloc (.row (ints rs) e false))) (hl : Nat.beq f livN = false := by rfl) : EvCall P G f [.slice b 0 n (.upto sz), .int .i64 (.ofNat i), .slice vb 0 1 (.known mc)] σ R := by
 obtain ⟨K1, v1, σ1, k1, b1, cs1, rfl, g1, g2, g3, g4, g5⟩ := h1
 obtain ⟨K2, v2, σ2, k2, b2, a, cs2, rfl, f0, f1, f2, f3, f4, f5⟩ := h2
 refine ⟨max K1 K2, _, _, fun k hk => ?_, hR⟩
 rw [call_fk (hG.h1 _ _ _) (hG.h2 _ _ hl) (by rw [hG.h3]; rfl) (hG.h4 _ _ _) hfk]
 have e : forkY P G (runX P G k) f [.slice b 0 n (.upto sz), .int .i64 (.ofNat i), .slice vb 0 1 (.known mc)] σ = .ret (.slice σ.next 0 n1 (.upto sz)) ((σ.drop b).alloc (.row (ints rs) e false)) := by
  have hat : atEnd [.slice b 0 n (.upto sz), .int .i64 (.ofNat i), .slice vb 0 1 (.known mc)] = false := by
   show Nat.beq i n = false
   cases hh : Nat.beq i n with
   | false => rfl
   | true => exact absurd (Nat.eq_of_beq_eq_true hh) (by omega)
  have hs : samePos b vb = false := by
   unfold samePos
   cases hh : Nat.beq b vb with
   | false => rfl
   | true => exact absurd (Nat.eq_of_beq_eq_true hh) hne
  unfold forkY
  rw [hat]
  simp only [cond_false]
  unfold forkX
  dsimp only
  rw [hb, hvb]
  dsimp only
  rw [hs, show Nat.ble 1 n = true by rw [Nat.ble_eq]; exact hn, show flatB (.int .i64 (.ofNat i)) = true from rfl, allFlat_ints, lenN_eq, Nat.zero_add, show Nat.ble (n * sz) cells.length = true by rw [Nat.ble_eq]; exact hc]
  rw [appN_eq, takeN_eq, replN_eq, k1 k (by omega), k2 k (by omega)]
  rw [forkRes_of (by show Nat.beq sz sz = true; exact Nat.beq_refl _) g1 g2 g3 hn1 g4 g5, forkRes_of (by show (Nat.beq sz sz && Nat.ble n1 a) = true; rw [Nat.beq_refl, show Nat.ble n1 a = true by rw [Nat.ble_eq]; exact f0]; rfl) f1 f2 f3 hn1 f4 f5]
  dsimp only
  rw [show Nat.beq n1 n1 = true from Nat.beq_refl n1, eqFlats_ints]
  rfl
 rw [e]
 rfl
end
end Go.Ev

/- Slices with low bounds, copies, appends of zeroes; cells of lists of Ids. -/
namespace Go.Ev
variable [Env]
def cellsI (l : List XId) : List AV := l.flatMap fun x => ints x.ints
theorem cellsI_cons (x : XId) (l : List XId) : cellsI (x :: l) = ints x.ints ++ cellsI l := rfl
theorem cellsI_app (l r : List XId) : cellsI (l ++ r) = cellsI l ++ cellsI r := List.flatMap_append
theorem cellsI_length : ∀ (l : List XId), (cellsI l).length = l.length * 2
 | [] => rfl
 | x :: l => by
  rw [cellsI_cons, List.length_append, cellsI_length l, List.length_cons]
  show 2 + _ = _
  omega
theorem cellsI_drop : ∀ (l : List XId) (i : Nat), (cellsI l).drop (i * 2) = cellsI (l.drop i)
 | l, 0 => by simp
 | [], i + 1 => by simp [cellsI]
 | x :: l, i + 1 => by
  rw [List.drop_succ_cons, ← cellsI_drop l i, cellsI_cons, show (i + 1) * 2 = (ints x.ints).length + i * 2 by show _ = 2 + _; omega, ← List.drop_drop, List.drop_left]
theorem cellsI_take : ∀ (l : List XId) (i : Nat), (cellsI l).take (i * 2) = cellsI (l.take i)
 | l, 0 => by simp [cellsI]
 | [], i + 1 => by simp [cellsI]
 | x :: l, i + 1 => by
  rw [List.take_succ_cons, cellsI_cons, cellsI_cons, ← cellsI_take l i, show (i + 1) * 2 = (ints x.ints).length + i * 2 by show _ = 2 + _; omega, List.take_length_add_append]
theorem allLeaf_ints : ∀ (l : List Int), allLeaf (ints l) = true
 | [] => rfl
 | x :: l => lC rfl (allLeaf_ints l)
theorem cellsI_ints (l : List XId) : cellsI l = ints (l.flatMap XId.ints) := by
 induction l with
 | nil => rfl
 | cons x l ih => rw [cellsI_cons, ih, List.flatMap_cons]; simp [ints]
theorem cellsI_leaf (l : List XId) : allLeaf (cellsI l) = true := by rw [cellsI_ints]; exact allLeaf_ints _
/-- Cells that hold a list's Ids one by one are its cells. -/
theorem cellsI_of : ∀ (l : List XId) (cells : List AV), cells.length = l.length * 2 → (∀ (i : Nat) (x : XId), l[i]? = some x → RId x ((cells.drop (i * 2)).take 2)) → cells = cellsI l
 | [], cells, h, _ => List.eq_nil_of_length_eq_zero h
 | x :: l, cells, h, hr => by
  rw [List.length_cons] at h
  have h0 : cells.take 2 = ints x.ints := by have := hr 0 x rfl; simpa [RId] using this
  rw [cellsI_cons, ← h0, ← cellsI_of l (cells.drop 2) (by rw [List.length_drop]; omega) (fun i y hy => by have := hr (i + 1) y (by simpa using hy); rwa [show (i + 1) * 2 = 2 + i * 2 by omega, ← List.drop_drop] at this), List.take_append_drop]
theorem cellsI_at {l : List XId} {i : Nat} {x : XId} (h : l[i]? = some x) : RId x (((cellsI l).drop (i * 2)).take 2) := by
 rw [cellsI_drop, drop_at h, cellsI_cons, show (2 : Nat) = (ints x.ints).length from rfl, List.take_left]; rfl
/-- A stretch is written over. -/
theorem splice_at {A X Z : List AV} {off : Nat} (ho : off = A.length) (hz : X.length ≤ Z.length) : splice X (A ++ Z) off = A ++ (X ++ Z.drop X.length) := by
 subst ho
 rw [splice_eq _ _ _ (by rw [List.length_append]; omega), List.take_left, ← List.drop_drop, List.drop_left, List.append_assoc]
theorem ins_fin {A X B Z : List AV} {off : Nat} (ho : off = A.length + X.length) (hz : Z.length = B.length) : splice B (A ++ (X ++ Z)) off = A ++ (X ++ B) := by
 rw [← List.append_assoc, splice_at (by rw [List.length_append]; exact ho) (by omega), List.drop_eq_nil_of_le (by omega), List.append_nil, List.append_assoc]
theorem ins_mid {A X B C : List AV} {off : Nat} (ho : off = A.length) (hc : X.length = C.length) : splice X (A ++ (C ++ B)) off = A ++ (X ++ B) := by
 rw [splice_at ho (by rw [List.length_append]; omega), hc, List.drop_left]
section
variable {P : Program} {G : Cx} {ev : Operand → Option AV} {σ : AHeap}
theorem bnd_lo {lo : Operand} {k : IntKind} {l len cap : Nat} (h : ev lo = some (.int k (.ofNat l))) (hl : l ≤ len) : boundsA ev len cap (some lo) none = some (l, len) := by
 simp only [boundsA, boundA, h, show Nat.ble l len = true by rw [Nat.ble_eq]; exact hl, cond_true]
theorem bnd_hi {hi : Operand} {k : IntKind} {h' len cap : Nat} (h : ev hi = some (.int k (.ofNat h'))) (hl : h' ≤ cap) : boundsA ev len cap none (some hi) = some (0, h') := by
 simp only [boundsA, boundA, h, show Nat.ble h' cap = true by rw [Nat.ble_eq]; exact hl, cond_true]
theorem x_sliceK {t e sz b off len cap l h : Nat} {x : Operand} {lo hi : Option Operand} (ht : P.underlying t = some (.slice e)) (hj : (P.info? e).map (·.size) = some sz) (hx : ev x = some (.slice b off len (.known cap))) (hb : boundsA ev len cap lo hi = some (l, h)) (hl : l < cap) :
  opX P G ev σ (.slice t x lo hi none) = .val (.slice b (off + l * sz) (h - l) (.known (cap - l))) σ := by
 refine xU rfl ?_
 obtain ⟨j, hj', rfl⟩ := Option.map_eq_some_iff.1 hj
 have : Nat.beq cap l = false := by
  cases hh : Nat.beq cap l with
  | false => rfl
  | true => exact absurd (Nat.eq_of_beq_eq_true hh) (by omega)
 simp only [pureA, sliceA, ht, hx, cutAt, hb, cut, hj', this, cond_false]
theorem x_sliceE {t e sz b off cap : Nat} {k : IntKind} {x lo : Operand} (ht : P.underlying t = some (.slice e)) (hj : (P.info? e).map (·.size) = some sz) (hx : ev x = some (.slice b off cap (.known cap))) (hb : ev lo = some (.int k (.ofNat cap))) :
  opX P G ev σ (.slice t x (some lo) none none) = .val (.slice b off 0 (.known 0)) σ := by
 refine xU rfl ?_
 obtain ⟨j, hj', rfl⟩ := Option.map_eq_some_iff.1 hj
 have : Nat.beq cap cap = true := Nat.beq_refl cap
 simp only [pureA, sliceA, ht, hx, cutAt, bnd_lo hb (Nat.le_refl cap), cut, hj', this, cond_true, Nat.sub_self]
theorem x_sliceN {t e sz : Nat} {k : IntKind} {x lo : Operand} (ht : P.underlying t = some (.slice e)) (hj : (P.info? e).map (·.size) = some sz) (hx : ev x = some .nilSlice) (hb : ev lo = some (.int k (.ofNat 0))) :
  opX P G ev σ (.slice t x (some lo) none none) = .val .nilSlice σ := by
 refine xU rfl ?_
 obtain ⟨j, hj', rfl⟩ := Option.map_eq_some_iff.1 hj
 simp only [pureA, sliceA, ht, hx, bnd_lo hb (Nat.le_refl 0), hj']
theorem x_sliceU {t e sz b off len l h : Nat} {x : Operand} {lo hi : Option Operand} (ht : P.underlying t = some (.slice e)) (hj : (P.info? e).map (·.size) = some sz) (hx : ev x = some (.slice b off len (.upto sz))) (hb : boundsA ev len len lo hi = some (l, h)) :
  opX P G ev σ (.slice t x lo hi none) = .val (.slice b (off + l * sz) (h - l) (.upto sz)) σ := by
 refine xU rfl ?_
 obtain ⟨j, hj', rfl⟩ := Option.map_eq_some_iff.1 hj
 simp only [pureA, sliceA, ht, hx, hb, hj', Nat.beq_refl, cond_true]
theorem x_sliceL {t e sz b off len a l h : Nat} {x : Operand} {lo hi : Option Operand} (ht : P.underlying t = some (.slice e)) (hj : (P.info? e).map (·.size) = some sz) (hx : ev x = some (.slice b off len (.least a sz))) (hb : boundsA ev len a lo hi = some (l, h)) (h1 : len ≤ a) (h2 : l + 1 ≤ a) :
  opX P G ev σ (.slice t x lo hi none) = .val (.slice b (off + l * sz) (h - l) (.least (a - l) sz)) σ := by
 refine xU rfl ?_
 obtain ⟨j, hj', rfl⟩ := Option.map_eq_some_iff.1 hj
 simp only [pureA, sliceA, ht, hx, hb, hj', Nat.beq_refl, show Nat.ble len a = true by rw [Nat.ble_eq]; exact h1, show Nat.ble (Nat.succ l) a = true by rw [Nat.ble_eq]; exact h2, Bool.and_self, cond_true]
theorem src_row {b off len sz e : Nat} {c : Cap} {ro : Bool} {cells : List AV} (hb : σ.m.get b = some (.row cells e ro)) (hl : off + len * sz ≤ cells.length) : sourceA σ sz (.slice b off len c) = some (len, (cells.drop off).take (len * sz)) := by
 simp only [sourceA, hb, lenN_eq, show Nat.ble (off + len * sz) cells.length = true by rw [Nat.ble_eq]; exact hl, cond_true, takeN_eq, dropN_eq]
theorem x_copy {cl : Call} {ds so : Operand} {ty e sz b off len n cnt e' : Nat} {c : Cap} {v : AV} {news cells cells' : List AV} (hc : cl.callee = .builtin .copy) (ha : cl.args.toList = [ds, so]) (ht : cl.argTypes[0]? = some ty) (hu : P.underlying ty = some (.slice e)) (hj : (P.info? e).map (·.size) = some sz)
  (hd : ev ds = some (.slice b off len c)) (hs : ev so = some v) (hsrc : sourceA σ sz v = some (n, news)) (hcnt : Nat.min n len = cnt) (hpos : 1 ≤ cnt) (hb : σ.m.get b = some (.row cells e' false)) (hl : allLeaf (news.take (cnt * sz)) = true) (hsz : 1 ≤ sz)
  (hle : off + (news.take (cnt * sz)).length ≤ cells.length) (hr : splice (news.take (cnt * sz)) cells off = cells') : opX P G ev σ (.call cl) = .val (.int .i64 (.ofNat cnt)) (σ.setObj b (.row cells' e' false)) := by
 refine x_heavy (by simp [kindOf, hc]) ?_
 obtain ⟨j, hj', rfl⟩ := Option.map_eq_some_iff.1 hj
 have he : evs ev [ds, so] = some [.slice b off len c, v] := by
  unfold evs allSome
  simp only [hd, hs]
 have h0 : Nat.beq cnt 0 = false := by
  cases hh : Nat.beq cnt 0 with
  | false => rfl
  | true => exact absurd (Nat.eq_of_beq_eq_true hh) (by omega)
 subst hr
 simp only [heavyA, hc, ha, he, copyA, ht, hu, hj', hsrc, hcnt, h0, cond_false, hb, takeN_eq, hl, lenN_eq, show Nat.ble 1 j.size = true by rw [Nat.ble_eq]; exact hsz, show Nat.ble (off + (news.take (cnt * j.size)).length) cells.length = true by rw [Nat.ble_eq]; exact hle, Bool.and_self, cond_true]
theorem x_appendZ {cl : Call} {so no : Operand} {ty t2 e sz b len cp n e' w : Nat} {k2 : IntKind} {cells zs : List AV} (hc : cl.callee = .builtin .append) (ha : cl.args.toList = [so, no]) (ht : cl.argTypes[0]? = some ty) (ht2 : cl.argTypes[1]? = some t2) (hu : P.underlying ty = some (.slice e)) (hu2 : P.underlying t2 = some (.int k2)) (hj : (P.info? e).map (·.size) = some sz) (hw : (P.info? e).map (·.bytes) = some w) (hz : (zeroA P e).bind cellsA = some zs)
  (hs : ev so = some (.slice b 0 len (.known cp))) (hn : ev no = some (.int .i64 (.ofNat n))) (hb : σ.m.get b = some (.row cells e' false)) (h1 : cp < len + n) (h2 : 1 ≤ n) (h3 : n ≤ 1048576) (h4 : len ≤ 1048576) (h5 : 1 ≤ sz) (h6 : w ≤ 65536) (h7 : zs.length = sz) (h8 : len * sz ≤ cells.length) {m : Nat} (hm : len + n = m) :
  opX P G ev σ (.call cl) = .val (.slice σ.next 0 m (.upto sz)) (σ.alloc (.row (cells.take (len * sz) ++ timesN zs n) e false)) := by
 refine x_heavy (by simp [kindOf, hc]) ?_
 obtain ⟨j, hj', rfl⟩ := Option.map_eq_some_iff.1 hj
 rw [hj'] at hw
 have hw : j.bytes = w := by simpa using hw
 subst hm
 have he : evs ev [so, no] = some [.slice b 0 len (.known cp), .int .i64 (.ofNat n)] := by
  unfold evs allSome
  simp only [hs, hn]
 have hsl : sliceOrStr P (some t2) = false := by simp only [sliceOrStr, hu2]
 have hcp : Nat.ble (len + n) cp = false := by
  cases hh : Nat.ble (len + n) cp with
  | false => rfl
  | true => rw [Nat.ble_eq] at hh; omega
 have e1 : Nat.ble n 1048576 = true := by rw [Nat.ble_eq]; exact h3
 have e2 : Nat.ble 1 n = true := by rw [Nat.ble_eq]; exact h2
 have e3 : Nat.ble 1 j.size = true := by rw [Nat.ble_eq]; exact h5
 have e4 : Nat.ble j.bytes 65536 = true := by rw [Nat.ble_eq, hw]; exact h6
 have e5 : Nat.beq (lenN zs) j.size = true := by rw [lenN_eq, h7]; exact Nat.beq_refl _
 have e6 : Nat.ble (0 + len * j.size) (lenN cells) = true := by rw [Nat.ble_eq, lenN_eq]; omega
 have e7 : Nat.ble len 1048576 = true := by rw [Nat.ble_eq]; exact h4
 simp only [heavyA, hc, ha, he, hsl, cond_false, appendZ, ht, ht2, hu, hu2, hj', hz, e1, e2, e3, e4, e5, Bool.and_self, cond_true, hcp, hb, e6, e7, grow, appN_eq, takeN_eq, dropN_eq, List.drop_zero]
end
section
variable {P : Program} {G : Cx} {ev : Operand → Option AV} {σ : AHeap}
theorem x_overlaps {cl : Call} {g b b' off off' n n' e e' : Nat} {c c' : Cap} {cells cells' : List AV} {x y : Operand} (hc : cl.callee = .value (.func g)) (ha : cl.args.toList = [x, y]) (hgo : isGo P g = false) (hov : G.ov g = true) (hne : isNe P g = false) (hx : ev x = some (.slice b off n c)) (hy : ev y = some (.slice b' off' n' c')) (hf : ev (.func g) = some (.func g [] []))
  (h1 : σ.m.get b = some (.row cells e false)) (h2 : σ.m.get b' = some (.row cells' e' false)) (hb : b ≠ b') (hcf : capFixed c = true) (hcf' : capFixed c' = true) (hl : 1 ≤ cells'.length) : opX P G ev σ (.call cl) = .val (.bool false) σ := by
 refine x_heavy (by simp [kindOf, hc]) ?_
 have he : evs ev [x, y] = some [.slice b off n c, .slice b' off' n' c'] := by
  unfold evs allSome
  simp only [hx, hy]
 have hs : samePos b b' = false := by
  unfold samePos
  cases hh : Nat.beq b b' with
  | false => rfl
  | true => exact absurd (Nat.eq_of_beq_eq_true hh) hb
 have hap : appN ([] : List AV) (appN [.slice b off n c, .slice b' off' n' c'] []) = [.slice b off n c, .slice b' off' n' c'] := rfl
 simp only [heavyA, hc, hf, ha, he, callA, hgo, hov, hne, cond_true, cond_false, hap, overlapsA, h1, h2, hs, hcf, hcf', lenN_eq, show Nat.ble 1 cells'.length = true by rw [Nat.ble_eq]; exact hl, Bool.and_self]
theorem x_cap {cl : Call} {ty e : TypeId} {x : Operand} {v r : AV} (hc : cl.callee = .builtin .cap) (ht : cl.argTypes[0]? = some ty) (ha : cl.args.toList = [x]) (hu : P.underlying ty = some (.slice e)) (hx : ev x = some v) (h : capA v = some r) : opX P G ev σ (.call cl) = .val r σ := by
 refine xU (by simp [kindOf, hc]) ?_
 simp only [pureA, hc, ht, ha, hu, hx, h]
end
section
variable {P : Program} {G : Cx} {n : Nat} {t : PT AV} {σ : AHeap} {K : KP} {L : Own} {Q : Ex → PT AV → AHeap → Prop} {ops : Array Oper} {o : Oper} {l : List Oper}
theorem o_grow (hs : St σ K L) {ob : AObj} {k sz : Nat} {t' : Nat → PT AV} (hw : wantedA ops t o = some true) (hv : opX P G (evalT G t) σ o.op = .val (.slice σ.next 0 k (.upto sz)) (σ.alloc ob)) (hp : ∀ b, putT t n o.dst (.slice b 0 k (.upto sz)) = some (t' b))
  (h : ∀ (σ' : AHeap) (b : Nat), St σ' K ((b, ob) :: L) → EvOps P G ops n l (t' b) σ' Q) : EvOps P G ops n (o :: l) t σ Q :=
 eV hw hv (hp _) (h _ _ (hs.alloc ob))
end
section
variable {P : Program} {G : Cx} {σ : AHeap} {K : KP} {L : Own}
/-- An append to nil. -/
theorem x_appendN {α : Type} {m e : Nat} {R : α → List AV → Prop} {l2 : List α} {v2 : AV} {ts : Array TypeId} {t : TypeId} (hs : St σ K L) (hx : HasS K m R l2 v2) (hleaf : ∀ x vs, R x vs → allLeaf vs = true) (hn : l2.length ≤ 1048576) (hpos : 1 ≤ l2.length)
  (ht : ts[0]? = some t) (hu : P.underlying t = some (.slice e)) (ha : appT P e m = true) (h2 : sliceOrStr P ts[1]? = true) :
  ∃ news, appendA P σ ts .nilSlice v2 = .val (.slice σ.next 0 l2.length (.upto m)) (σ.alloc (.row news e false)) ∧ news.length = l2.length * m ∧ ∀ (i : Nat) (x : α), l2[i]? = some x → R x ((news.drop (i * m)).take m) := by
 obtain ⟨news, s1, s2, s3, s4⟩ := source_of hs hx hleaf
 refine ⟨news, ?_, s2, s4⟩
 unfold appT at ha
 split at ha
 ·rename_i j hj
  simp only [Bool.and_eq_true] at ha
  obtain ⟨a1, a2, a3, a4⟩ := ha
  have hm : j.size = m := Nat.eq_of_beq_eq_true a1
  subst hm
  have hz : ((P.info? e).any fun j => (j.zero.bind ofVal).any fun z => (cellsA z).any fun cs => Nat.beq (lenN cs) j.size) = true := by rw [hj]; exact a4
  have h0 : Nat.beq l2.length 0 = false := by
   cases hh : Nat.beq l2.length 0 with
   | false => rfl
   | true => exact absurd (Nat.eq_of_beq_eq_true hh) (by omega)
  unfold appendA
  rw [ht]
  dsimp only
  rw [hu]
  dsimp only
  rw [hj] at hz ⊢
  dsimp only
  rw [h2, a2, a3]
  simp only [Bool.and_self, cond_true]
  rw [s1]
  dsimp only
  rw [s3, show Nat.ble l2.length 1048576 = true by rw [Nat.ble_eq]; exact hn, hz]
  simp only [Bool.and_self, cond_true, h0, cond_false]
  rfl
 ·cases ha
end
section
variable {P : Program} {G : Cx} {n : Nat} {t : PT AV} {σ : AHeap} {K : KP} {L : Own} {Q : Ex → PT AV → AHeap → Prop} {ops : Array Oper} {o : Oper} {l : List Oper}
theorem o_appendN {α : Type} {m e : Nat} {R : α → List AV → Prop} {l2 : List α} {v2 : AV} {ty : TypeId} {cl : Call} {so xo : Operand} {t' : AV → PT AV} (hs : St σ K L) (hx : HasS K m R l2 v2) (hleaf : ∀ x vs, R x vs → allLeaf vs = true) (hn : l2.length ≤ 1048576) (hpos : 1 ≤ l2.length)
  (hw : wantedA ops t o = some true) (ho : o.op = .call cl) (hcl : cl.callee = .builtin .append) (hargs : cl.args.toList = [so, xo]) (ht : cl.argTypes[0]? = some ty) (hu : P.underlying ty = some (.slice e)) (ha : appT P e m = true) (h2 : sliceOrStr P cl.argTypes[1]? = true)
  (e1' : evalT G t so = some .nilSlice) (e2' : evalT G t xo = some v2) (hp : ∀ v, putT t n o.dst v = some (t' v))
  (h : ∀ (σ' : AHeap) (b' : Nat) (news : List AV), St σ' K ((b', .row news e false) :: L) → news.length = l2.length * m → (∀ (i : Nat) (x : α), l2[i]? = some x → R x ((news.drop (i * m)).take m)) → EvOps P G ops n l (t' (.slice b' 0 l2.length (.upto m))) σ' Q) : EvOps P G ops n (o :: l) t σ Q := by
 obtain ⟨news, k1, k2, k3⟩ := x_appendN (P := P) hs hx hleaf hn hpos ht hu ha h2
 refine eV hw ?_ (hp _) (h _ σ.next news (hs.alloc _) k2 k3)
 rw [ho]
 exact x_appendOp hcl hargs e1' e2' h2 k1
end
section
variable {σ : AHeap} {K : KP} {L : Own} {b : Nat} {o : AObj}
/-- A kept block is taken as one's own for a while. -/
def KP.sub (K : KP) (b : Nat) : KP := fun b' o' => K b' o' ∧ b' ≠ b
theorem St.unkeep (h : St σ K L) (hk : K b o) : St σ (K.sub b) ((b, o) :: L) where
 kept b' o' hb := by
  obtain ⟨h1, h2, h3⟩ := h.kept b' o' hb.1
  refine ⟨h1, h2, fun e he => ?_⟩
  rcases List.mem_cons.1 he with rfl | he
  ·exact fun hh => hb.2 hh.symm
  ·exact h3 e he
 own e he := by
  rcases List.mem_cons.1 he with rfl | he
  ·exact ⟨(h.kept b o hk).1, (h.kept b o hk).2.1⟩
  ·exact h.own e he
 ne := List.pairwise_cons.2 ⟨fun e he hh => (h.kept b o hk).2.2 e he hh.symm, h.ne⟩
theorem St.rekeep {σ0 : AHeap} {L0 : Own} (h0 : St σ0 K L0) (hk : K b o) (h : St σ (K.sub b) ((b, o) :: L)) : St σ K L :=
 h.keep.weaken fun b' o' hb => by
  by_cases hbb : b' = b
  ·subst hbb
   have e1 := (h0.kept _ _ hb).2.1
   rw [(h0.kept _ _ hk).2.1] at e1
   cases e1
   exact .inr ⟨rfl, rfl⟩
  ·exact .inl ⟨hb, hbb⟩
theorem St.two {b b' : Nat} {o o' o1 o1' : AObj} (hb : b < σ.next) (hb' : b' < σ.next) (hne : b ≠ b') : St (twoBlocks σ b o b' o') (fun _ _ => False) [(b, o), (b', o')] where
 kept _ _ h := h.elim
 own e he := by
  rcases List.mem_cons.1 he with rfl | he
  ·exact ⟨hb, by show ((PT.leaf.put (some o) b).put (some o') b').get b = _; rw [PT.get_put_other _ _ _ _ hne]; exact PT.get_put_same _ _ _⟩
  ·rcases List.mem_cons.1 he with rfl | he
   ·exact ⟨hb', PT.get_put_same _ _ _⟩
   ·cases he
 ne := List.pairwise_cons.2 ⟨fun e he => (by rw [List.mem_singleton] at he; subst he; exact hne), List.pairwise_singleton ..⟩
end
end Go.Ev

/- Own rows found among own blocks; appends to them; what graph.Add comes to. -/
namespace Go.Ev
variable [Env]
/-- The first list is the second one with a stretch put in. -/
inductive OwnIn (X : Own) : Own → Own → Prop
 | here {L : Own} : OwnIn X (X ++ L) L
 | there {y : Nat × AObj} {L L0 : Own} : OwnIn X L L0 → OwnIn X (y :: L) (y :: L0)
 | seg {M L L0 : Own} : OwnIn X L L0 → OwnIn X (M ++ L) (M ++ L0)
theorem OwnIn.perm {X L L0 : Own} (h : OwnIn X L L0) : L.Perm (X ++ L0) := by
 induction h with
 | here => exact List.Perm.refl _
 | @there y L L0 _ ih => exact (List.Perm.cons y ih).trans List.perm_middle.symm
 | @seg M L L0 _ ih =>
  refine (List.Perm.append_left M ih).trans ?_
  rw [← List.append_assoc, ← List.append_assoc]
  exact List.Perm.append_right _ List.perm_append_comm
theorem OwnIn.inSeg {X A B L : Own} : OwnIn X ((A ++ (X ++ B)) ++ L) ((A ++ B) ++ L) := by
 rw [List.append_assoc, List.append_assoc, List.append_assoc]
 exact .seg .here
section
variable {σ : AHeap} {K : KP} {L L0 X : Own}
theorem St.pull (h : St σ K L) (hi : OwnIn X L L0) : St σ K (X ++ L0) := h.perm hi.perm
theorem St.push (h : St σ K (X ++ L0)) (hi : OwnIn X L L0) : St σ K L := h.perm hi.perm.symm
/-- An append to a list of one's own, of what lies in the newest block, which is forgotten. -/
theorem ownS_append {P : Program} {α : Type} {m e : Nat} {R : α → List AV → Prop} {l l2 : List α} {u v2 : AV} {M : Own} {bv ev : Nat} {cv : List AV} {ts : Array TypeId} {t : TypeId} (ho : OwnS m e R l u M) (hst : St σ K ((bv, .row cv ev false) :: (M ++ L)))
  (hx : HasS (K.add bv (.row cv ev false)) m R l2 v2) (hleaf : ∀ x vs, R x vs → allLeaf vs = true) (hn : l2.length ≤ 1000) (hpos : 1 ≤ l2.length) (hl : l.length ≤ 1000000)
  (ht : ts[0]? = some t) (hu : P.underlying t = some (.slice e)) (ha : appT P e m = true) (h2 : sliceOrStr P ts[1]? = true) :
  ∃ σ' u' M', appendA P σ ts u v2 = .val u' σ' ∧ OwnS m e R (l ++ l2) u' M' ∧ St σ' K (M' ++ L) := by
 have hk := hst.keep
 rcases ho with ⟨rfl, rfl, rfl⟩ | ⟨b, c, cells, e', rfl, rfl, h3, h4, h5, h6⟩
 ·obtain ⟨news, k1, k2, k3⟩ := x_appendN (P := P) hk hx hleaf (by omega) hpos ht hu ha h2
  exact ⟨_, _, [(σ.next, .row news e false)], k1, .inr ⟨_, _, news, e, rfl, rfl, k2, k3, .inr ⟨rfl, rfl⟩, by show l2.length ≤ _; omega⟩, ((hk.alloc (.row news e false)).weaken (KP.le_add _ _ _))⟩
 ·obtain ⟨σ', b', c', news, e2, k1, k2, k3, k4, k5⟩ := x_append (P := P) hk hx hleaf (by omega) h3 (by omega) h5 ht hu ha h2
  exact ⟨σ', _, [(b', .row (cells ++ news) e2 false)], k1, ownS_app h3 h4 k3 k4 rfl k5 (by omega), k2.weaken (KP.le_add _ _ _)⟩
end
/-! What graph.Add comes to. -/
noncomputable def growG (g : XG) (tm : Nat) (e : XEv) (fr : XId) (pl : Nat) (row : List XEv) (frow : List XId) (orow : List XId) (loc : Nat) : XG :=
 { init := g.init, threads := g.threads.set tm (row ++ [e]), from_ := g.from_.set tm (frow ++ [fr]), order := bif writesB e then g.order.set loc (orow.take pl ++ ⟨.ofNat (tm + 1), .ofNat row.length⟩ :: orow.drop pl) else g.order }
/-- The graph and the error's number. -/
noncomputable def addG (g : XG) (th : Int) (e : XEv) (fr : XId) (pl : Int) : Option XG × Int :=
 bif !eqI (checkI g) 0 then (none, 2) else
 bif ltI th 1 then (none, 9) else
 bif ltI (.ofNat g.threads.length) th then (none, 9) else
 match g.threads[th.toNat - 1]?, g.from_[th.toNat - 1]? with
 | some row, some frow =>
  bif !ltI (.ofNat row.length) 14 then (none, 3) else
  bif (bif writesB e then (bif ltI pl 1 then true else ltI (.ofNat (writesG g e.loc).length) pl) else !eqI pl 0) then (none, 2) else
  let g' := growG g (th.toNat - 1) e fr (pl.toNat - 1) row frow ((g.order[e.loc.toNat]?).getD []) e.loc.toNat
  bif eqI (checkI g') 0 then (some g', 0) else (none, 2)
 | _, _ => (none, 9)
/-! For graph.Add's walk. -/
theorem x_lenO {P : Program} {G : Cx} {ev : Operand → Option AV} {σ : AHeap} {α : Type} {m E : Nat} {R : α → List AV → Prop} {l : List α} {u : AV} {M : Own} {c : Call} {t e : TypeId} {x : Operand} (h : OwnS m E R l u M) (hc : c.callee = .builtin .len) (ht : c.argTypes[0]? = some t) (ha : c.args.toList = [x]) (hu : P.underlying t = some (.slice e)) (hx : ev x = some u) :
  opX P G ev σ (.call c) = .val (.int .i64 (.ofNat l.length)) σ :=
 x_len' (K := fun b o => (b, o) ∈ M) (h.hasS fun e he => he) hc ht ha hu hx
theorem beqA_sl (b o l c : Nat) : beqA (.slice b o l (.known c)) (.slice b o l (.known c)) = true := by
 unfold beqA
 show (beqA.beqP b b && Nat.beq o o && Nat.beq l l && beqA.beqC (.known c) (.known c)) = true
 rw [show beqA.beqP b b = true from Nat.beq_refl b, show beqA.beqC (.known c) (.known c) = true from Nat.beq_refl c, Nat.beq_refl, Nat.beq_refl]; rfl
theorem splice_set {us : List AV} {u : AV} {i : Nat} (h : i < us.length) : splice [u] us (0 + i * 1) = us.set i u := by
 rw [show 0 + i * 1 = i by omega, splice_eq _ _ _ (by rw [List.length_singleton]; omega), List.length_singleton, List.set_eq_take_append_cons_drop, if_pos h, List.append_assoc]
 rfl
theorem pos_of {n : Int} (h : ltI n 1 = false) : ∃ m : Nat, n = .ofNat (m + 1) := by
 cases n with
 | negSucc k => cases h
 | ofNat k =>
  have : 1 ≤ k := lt_no (a := k) (b := 1) h
  exact ⟨k - 1, by rw [Nat.sub_add_cancel this]⟩
/-- Nothing is told twice: rows of the order are no longer than there are writes. -/
theorem lmDel_length {m : LM} {k : List Int} (h : (lmGet m k).isSome = true) : (lmDel m k).length + 1 = m.length := by
 unfold lmGet at h
 unfold lmDel
 cases ha : lmAt m k 0 with
 | none => rw [ha] at h; cases h
 | some p =>
  obtain ⟨j, v⟩ := p
  have h1 := (lmAt_some ha).2
  have hj : j < m.length := (List.getElem?_eq_some_iff.1 h1).1
  dsimp only
  rw [List.length_eraseIdx_of_lt hj]
  omega
theorem chkL_length {loc : Nat} : ∀ {l : List XId} {m m' : LM}, chkL loc l m = some m' → m'.length + l.length = m.length
 | [], m, m', h => by cases h; rfl
 | id :: l, m, m', h => by
  have h' : (bif (lmGet m id.ints).isSome then (bif eqI ((lmGet m id.ints).getD 0) (.ofNat loc) then chkL loc l (lmDel m id.ints) else none) else none) = some m' := h
  cases hs : (lmGet m id.ints).isSome with
  | false => rw [hs] at h'; cases h'
  | true =>
   rw [hs] at h'
   cases he : eqI ((lmGet m id.ints).getD 0) (.ofNat loc) with
   | false => rw [he] at h'; cases h'
   | true =>
    rw [he] at h'
    have h1 := chkL_length (l := l) h'
    have h2 := lmDel_length hs
    rw [List.length_cons]; omega
theorem chkO_length : ∀ {ls : List (List XId)} {loc : Nat} {m m' : LM}, chkO ls loc m = some m' → ∀ l ∈ ls, l.length ≤ m.length
 | [], _, _, _, _, l, hl => by cases hl
 | r :: ls, loc, m, m', h, l, hl => by
  have h' : (chkL loc r m).bind (chkO ls (loc + 1)) = some m' := h
  cases hr : chkL loc r m with
  | none => rw [hr] at h'; cases h'
  | some m1 =>
   rw [hr] at h'
   have h1 := chkL_length hr
   rcases List.mem_cons.1 hl with rfl | hl
   ·omega
   ·have := chkO_length (ls := ls) h' l hl
    omega
theorem insE_length {t : Nat} {m : LM} {n : Nat} {e : XEv} : (insE t m n e).length ≤ m.length + 1 := by
 unfold insE
 cases writesB e with
 | false => show m.length ≤ _; omega
 | true =>
  show (lmPut m _ _).length ≤ _
  unfold lmPut
  split
  ·rw [List.length_set]; omega
  ·rw [List.length_append]; exact Nat.le_refl _
theorem insL_length {t : Nat} : ∀ {l : List XEv} {n : Nat} {m : LM}, (insL t l n m).length ≤ m.length + l.length
 | [], _, _ => Nat.le_refl _
 | e :: l, n, m => by
  have h1 := insL_length (t := t) (l := l) (n := n + 1) (m := insE t m n e)
  have h2 := insE_length (t := t) (m := m) (n := n) (e := e)
  show (insL t l (n + 1) (insE t m n e)).length ≤ _
  rw [List.length_cons]; omega
theorem insT_length : ∀ {ls : List (List XEv)} {t : Nat} {m : LM}, (∀ l ∈ ls, l.length ≤ 14) → (insT ls t m).length ≤ m.length + 14 * ls.length
 | [], _, _, _ => by simp [insT]
 | l :: ls, t, m, h => by
  have h1 := insT_length (ls := ls) (t := t + 1) (m := insL t l 0 m) fun x hx => h x (List.mem_cons_of_mem _ hx)
  have h2 := insL_length (t := t) (l := l) (n := 0) (m := m)
  have h3 := h l (List.mem_cons_self ..)
  show (insT ls (t + 1) (insL t l 0 m)).length ≤ _
  rw [List.length_cons]; omega
/-- In a graph that is right, no row of the order is long. -/
theorem order_le {g : XG} (h : checkI g = 0) : ∀ l ∈ g.order, l.length ≤ 56 := by
 intro l hl
 obtain ⟨b1, b2, b3, b4, b5, b6, b7⟩ := check_bounds h
 unfold rightOrderB at b7
 cases hc : chkO g.order 0 (insT g.threads 0 []) with
 | none => rw [hc] at b7; cases b7
 | some m =>
  have h1 := chkO_length hc l hl
  have h2 := insT_length (ls := g.threads) (t := 0) (m := []) b3
  have h3 : ([] : LM).length = 0 := rfl
  omega
end Go.Ev
namespace Go.Ev
variable [Env]
theorem rowsB_le {g : XG} : ∀ {ts : List (List XEv)} {fs : List (List XId)} {i : Nat}, rowsB g ts fs i = true → fs.length = ts.length → (∀ l ∈ ts, l.length ≤ 14) → ∀ f ∈ fs, f.length ≤ 14
 | [], fs, _, _, hl, _, f, hf => by
  rw [List.eq_nil_of_length_eq_zero hl] at hf; cases hf
 | x :: ts, [], _, _, hl, _, f, hf => by cases hf
 | x :: ts, y :: fs, i, h, hl, hb, f, hf => by
  have h' : (bif eqI (.ofNat y.length) (.ofNat x.length) then (bif rowB g i x y 0 then rowsB g ts fs (i + 1) else false) else false) = true := h
  cases he : eqI (.ofNat y.length) (.ofNat x.length) with
  | false => rw [he] at h'; cases h'
  | true =>
   rw [he] at h'
   cases hr : rowB g i x y 0 with
   | false => rw [hr] at h'; cases h'
   | true =>
    rw [hr] at h'
    have e1 := len_of he
    have e2 := hb x (List.mem_cons_self ..)
    rcases List.mem_cons.1 hf with rfl | hf
    ·omega
    ·exact rowsB_le (ts := ts) (fs := fs) h' (by simpa using hl) (fun l hl => hb l (List.mem_cons_of_mem _ hl)) f hf
end Go.Ev
namespace Go.Ev
variable [Env]
theorem addG_chk {g : XG} {th pl : Int} {e : XEv} {fr : XId} (h : eqI (checkI g) 0 = false) : addG g th e fr pl = (none, 2) := by unfold addG; rw [h]; rfl
theorem addG_low {g : XG} {th pl : Int} {e : XEv} {fr : XId} (h : eqI (checkI g) 0 = true) (h1 : ltI th 1 = true) : addG g th e fr pl = (none, 9) := by unfold addG; rw [h, h1]; rfl
theorem addG_big {g : XG} {th pl : Int} {e : XEv} {fr : XId} (h : eqI (checkI g) 0 = true) (h1 : ltI th 1 = false) (h2 : ltI (.ofNat g.threads.length) th = true) : addG g th e fr pl = (none, 9) := by unfold addG; rw [h, h1, h2]; rfl
noncomputable def badPlace (g : XG) (e : XEv) (pl : Int) : Bool := bif writesB e then (bif ltI pl 1 then true else ltI (.ofNat (writesG g e.loc).length) pl) else !eqI pl 0
noncomputable def grownG (g : XG) (tm : Nat) (e : XEv) (fr : XId) (pl : Int) (row : List XEv) (frow : List XId) : XG := growG g tm e fr (pl.toNat - 1) row frow ((g.order[e.loc.toNat]?).getD []) e.loc.toNat
theorem addG_at {g : XG} {tm : Nat} {pl : Int} {e : XEv} {fr : XId} {row : List XEv} {frow : List XId} (h : eqI (checkI g) 0 = true) (hx : g.threads[tm]? = some row) (hf : g.from_[tm]? = some frow) :
  addG g (.ofNat (tm + 1)) e fr pl = bif !ltI (.ofNat row.length) 14 then (none, 3) else bif badPlace g e pl then (none, 2) else bif eqI (checkI (grownG g tm e fr pl row frow)) 0 then (some (grownG g tm e fr pl row frow), 0) else (none, 2) := by
 have hlt : tm < g.threads.length := (List.getElem?_eq_some_iff.1 hx).1
 have h1 : ltI (.ofNat (tm + 1)) 1 = false := by rw [show (1 : Int) = .ofNat 1 from rfl, ltI_nat]; simp
 have h2 : ltI (.ofNat g.threads.length) (.ofNat (tm + 1)) = false := by rw [ltI_nat]; simp; omega
 have e1 : (Int.ofNat (tm + 1)).toNat - 1 = tm := rfl
 unfold addG
 rw [h, h1, h2]
 simp only [Bool.not_true, cond_false, e1, hx, hf]
 rfl
end Go.Ev
namespace Go.Ev
variable [Env]
theorem writes_pos {g : XG} {loc : Int} (h : 1 ≤ (writesG g loc).length) : ∃ (ln : Nat) (r : List XId), loc = .ofNat ln ∧ g.order[ln]? = some r ∧ (writesG g loc).length = r.length + 1 := by
 cases hc : eqI (checkI g) 0 with
 | false => rw [writesG_none hc] at h; cases h
 | true =>
  cases hl : ltI loc 0 with
  | true => rw [writesG_neg hl] at h; cases h
  | false =>
   obtain ⟨ln, rfl⟩ := nat_of hl
   cases hr : g.order[ln]? with
   | none =>
    rw [writesG_big (List.getElem?_eq_none_iff.1 hr)] at h; cases h
   | some r => exact ⟨ln, r, rfl, hr, by rw [writesG_at hc hr]; rfl⟩
section
variable {σ σ0 : AHeap} {K : KP} {L M : Own}
/-- What was lent is one's own again. -/
theorem St.unkeeps (h0 : St σ0 K (M ++ L)) (h : St σ (K.adds M) L) : St σ K (M ++ L) where
 kept b o hb := by
  obtain ⟨h1, h2, h3⟩ := h.kept b o (.inl hb)
  refine ⟨h1, h2, fun e he => ?_⟩
  rcases List.mem_append.1 he with he | he
  ·exact (h0.kept b o hb).2.2 e (List.mem_append_left _ he)
  ·exact h3 e he
 own e he := by
  rcases List.mem_append.1 he with he | he
  ·exact ⟨(h.kept e.1 e.2 (.inr he)).1, (h.kept e.1 e.2 (.inr he)).2.1⟩
  ·exact h.own e he
 ne := h0.ne
end
end Go.Ev
namespace Go.Ev
variable [Env]
/-- The first list is the second one, and the third one behind it. -/
inductive OwnApp : Own → Own → Own → Prop
 | base {L : Own} : OwnApp L [] L
 | there {x : Nat × AObj} {LL M L : Own} : OwnApp LL M L → OwnApp (x :: LL) (x :: M) L
 | seg {A LL M L : Own} : OwnApp LL M L → OwnApp (A ++ LL) (A ++ M) L
theorem OwnApp.eq {LL M L : Own} (h : OwnApp LL M L) : LL = M ++ L := by
 induction h with
 | base => rfl
 | there _ ih => rw [ih]; rfl
 | seg _ ih => rw [ih, List.append_assoc]
theorem St.app {σ : AHeap} {K : KP} {LL M L : Own} (h : St σ K LL) (ha : OwnApp LL M L) : St σ K (M ++ L) := by rw [← ha.eq]; exact h
theorem St.unapp {σ : AHeap} {K : KP} {LL M L : Own} (h : St σ K (M ++ L)) (ha : OwnApp LL M L) : St σ K LL := by rw [ha.eq]; exact h
theorem hasG_of {K : KP} {g : XG} {u1 : AV} {M1 M2 M3 M4 : Own} {b2 b3 b4 n2 n3 n4 : Nat} {us2 us3 us4 : List AV} (h1 : OwnS 1 2 RInt g.init u1 M1) (h2 : OwnSs 5 45 REv g.threads us2 M2) (h3 : OwnSs 2 47 RId g.from_ us3 M3) (h4 : OwnSs 2 47 RId g.order us4 M4)
  (k1 : ∀ e ∈ M1, K e.1 e.2) (k2 : ∀ e ∈ M2, K e.1 e.2) (k3 : ∀ e ∈ M3, K e.1 e.2) (k4 : ∀ e ∈ M4, K e.1 e.2) (q2 : K b2 (.row us2 61 false)) (q3 : K b3 (.row us3 62 false)) (q4 : K b4 (.row us4 62 false))
  (e2 : n2 = g.threads.length) (e3 : n3 = g.from_.length) (e4 : n4 = g.order.length) (l2 : g.threads.length ≤ 1048576) (l3 : g.from_.length ≤ 1048576) (l4 : g.order.length ≤ 1048576) : HasG K g u1 (.slice b2 0 n2 (.known n2)) (.slice b3 0 n3 (.known n3)) (.slice b4 0 n4 (.known n4)) :=
 ⟨h1.hasS k1, h2.hasS k2 q2 e2 l2, h3.hasS k3 q3 e3 l3, h4.hasS k4 q4 e4 l4⟩
theorem grown_w {g : XG} {tm ln pm : Nat} {e : XEv} {fr : XId} {row : List XEv} {frow orow : List XId} (hw : writesB e = true) (hl : e.loc = .ofNat ln) (ho : g.order[ln]? = some orow) :
  grownG g tm e fr (.ofNat (pm + 1)) row frow = { init := g.init, threads := g.threads.set tm (row ++ [e]), from_ := g.from_.set tm (frow ++ [fr]), order := g.order.set ln (orow.take pm ++ ⟨.ofNat (tm + 1), .ofNat row.length⟩ :: orow.drop pm) } := by
 have e1 : (Int.ofNat (pm + 1)).toNat - 1 = pm := rfl
 have e2 : (Int.ofNat ln).toNat = ln := rfl
 unfold grownG growG
 rw [hw, hl, e1, e2, ho]; rfl
theorem grown_r {g : XG} {tm : Nat} {pl : Int} {e : XEv} {fr : XId} {row : List XEv} {frow : List XId} (hw : writesB e = false) :
  grownG g tm e fr pl row frow = { init := g.init, threads := g.threads.set tm (row ++ [e]), from_ := g.from_.set tm (frow ++ [fr]), order := g.order } := by
 unfold grownG growG
 rw [hw]; rfl
end Go.Ev

/- Plain laws on graphs: nothing of the program in sight. -/
namespace Go.Ev
variable [Env]
theorem ltI_self (x : Int) : ltI x x = false := by
 cases x with
 | ofNat n => rw [ltI_nat]; simp
 | negSucc n =>
  cases h : ltI (.negSucc n) (.negSucc n) with
  | false => rfl
  | true =>
   have : Nat.blt n n = true := h
   rw [Nat.blt_eq] at this
   exact absurd this (Nat.lt_irrefl _)
theorem cmpZ_self (x : Int) : cmpZ x x = 0 := by unfold cmpZ; rw [ltI_self]; rfl
theorem cmpL_self {α : Type} {c : α → α → Int} (h : ∀ x, c x x = 0) : ∀ l, cmpL c l l = 0
 | [] => rfl
 | x :: l => by
  show (bif eqI (c x x) 0 then cmpL c l l else c x x) = 0
  rw [h x]
  exact cmpL_self h l
theorem fnz_zero : ∀ (l : List Int), (∀ x ∈ l, x = 0) → fnz l = 0
 | [], _ => rfl
 | x :: l, h => by
  show (bif eqI x 0 then fnz l else x) = 0
  rw [h x (List.mem_cons_self ..)]
  exact fnz_zero l fun y hy => h y (List.mem_cons_of_mem _ hy)
theorem cmpId_self (x : XId) : cmpId x x = 0 := fnz_zero _ fun y hy => by simp only [cmpZ_self, List.mem_cons, List.not_mem_nil, or_false, or_self] at hy; exact hy
theorem cmpEv_self (x : XEv) : cmpEv x x = 0 := fnz_zero _ fun y hy => by simp only [cmpZ_self, List.mem_cons, List.not_mem_nil, or_false, or_self] at hy; exact hy
theorem cmpLen_self {α : Type} (l : List α) : cmpLen l l = 0 := cmpZ_self _
theorem cmpIds_self (l : List XId) : cmpIds l l = 0 := fnz_zero _ fun y hy => by simp only [cmpLen_self, cmpL_self cmpId_self, List.mem_cons, List.not_mem_nil, or_false, or_self] at hy; exact hy
/-- A graph compared with itself. -/
theorem cmpG_self (g : XG) : cmpG g g = 0 := fnz_zero _ fun y hy => by
 simp only [cmpLen_self, cmpL_self cmpIds_self, cmpL_self (c := cmpLen) cmpLen_self, cmpL_self (cmpL_self cmpEv_self), cmpL_self cmpZ_self, List.mem_cons, List.not_mem_nil, or_false, or_self] at hy
 exact hy
/-! A row grows. -/
theorem evAt_init {g : XG} {i : Nat} : evAt g ⟨.ofNat 0, .ofNat i⟩ = (g.init[i]?).map fun v => ⟨2, i, 1, 0, v⟩ := rfl
theorem evAt_row {g : XG} {t i : Nat} : evAt g ⟨.ofNat (t + 1), .ofNat i⟩ = (g.threads[t]?).bind (·[i]?) := rfl
/-- Old Ids are as before. -/
theorem evAt_old {g g' : XG} {tm : Nat} {row : List XEv} {e w : XEv} {id : XId} (hr : g.threads[tm]? = some row) (hi : g'.init = g.init) (ht : g'.threads = g.threads.set tm (row ++ [e])) (h : evAt g id = some w) : evAt g' id = some w := by
 obtain ⟨th, ix⟩ := id
 cases ix with
 | negSucc k => rw [evAt_neg2 (by rw [ltI_eq]; simp)] at h; cases h
 | ofNat i =>
  cases th with
  | negSucc k => rw [evAt_neg1 (by rw [ltI_eq]; simp)] at h; cases h
  | ofNat t =>
   cases t with
   | zero => rw [evAt_init] at h ⊢; rw [hi]; exact h
   | succ t =>
    rw [evAt_row] at h ⊢
    rw [ht, List.getElem?_set]
    by_cases htm : tm = t
    ·subst htm
     have hlt : tm < g.threads.length := (List.getElem?_eq_some_iff.1 hr).1
     rw [if_pos rfl, if_pos hlt]
     rw [hr] at h
     have h' : row[i]? = some w := h
     show (row ++ [e])[i]? = some w
     rw [List.getElem?_append_left (List.getElem?_eq_some_iff.1 h').1]; exact h'
    ·rw [if_neg htm]; exact h
/-- The new Id is the new event. -/
theorem evAt_new {g g' : XG} {tm : Nat} {row : List XEv} {e : XEv} (hr : g.threads[tm]? = some row) (ht : g'.threads = g.threads.set tm (row ++ [e])) : evAt g' ⟨.ofNat (tm + 1), .ofNat row.length⟩ = some e := by
 have hlt : tm < g.threads.length := (List.getElem?_eq_some_iff.1 hr).1
 rw [evAt_row, ht, List.getElem?_set, if_pos rfl, if_pos hlt]
 show (row ++ [e])[row.length]? = some e
 rw [List.getElem?_append_right (Nat.le_refl _), Nat.sub_self]; rfl
/-! The list of writes. -/
noncomputable def wrRow (t : Nat) : List XEv → Nat → LM
 | [], _ => []
 | e :: l, n => bif writesB e then ([.ofNat (t + 1), .ofNat n], e.loc) :: wrRow t l (n + 1) else wrRow t l (n + 1)
noncomputable def wrAll : List (List XEv) → Nat → LM
 | [], _ => []
 | l :: r, t => wrRow t l 0 ++ wrAll r (t + 1)
theorem lmAt_none {k : List Int} : ∀ {m : LM} {i : Nat}, (∀ p ∈ m, p.1 ≠ k) → lmAt m k i = none
 | [], _, _ => rfl
 | (k', v) :: m, i, h => by
  show (bif sameX k k' then some (i, v) else lmAt m k (i + 1)) = none
  have : sameX k k' = false := by
   cases hh : sameX k k' with
   | false => rfl
   | true => exact absurd (sameX_iff.1 hh).symm (h (k', v) (List.mem_cons_self ..))
  rw [this]
  exact lmAt_none fun p hp => h p (List.mem_cons_of_mem _ hp)
theorem insL_app {t : Nat} : ∀ {l : List XEv} {n : Nat} {m : LM}, (∀ p ∈ m, ∀ k, n ≤ k → p.1 ≠ [.ofNat (t + 1), .ofNat k]) → insL t l n m = m ++ wrRow t l n
 | [], _, m, _ => by simp [insL, wrRow]
 | e :: l, n, m, h => by
  show insL t l (n + 1) (insE t m n e) = m ++ (bif writesB e then _ else _)
  unfold insE
  cases hw : writesB e with
  | false => exact insL_app fun p hp k hk => h p hp k (by omega)
  | true =>
   show insL t l (n + 1) (lmPut m [.ofNat (t + 1), .ofNat n] e.loc) = m ++ _
   have hp : lmPut m [.ofNat (t + 1), .ofNat n] e.loc = m ++ [([.ofNat (t + 1), .ofNat n], e.loc)] := by
    unfold lmPut
    rw [lmAt_none fun p hp => h p hp n (Nat.le_refl _)]
   rw [hp, insL_app (l := l) (n := n + 1) fun p hp k hk => ?_, List.append_assoc]
   ·rfl
   ·rcases List.mem_append.1 hp with hp | hp
    ·exact h p hp k (by omega)
    ·rw [List.mem_singleton] at hp
     subst hp
     intro he
     simp only [List.cons.injEq, and_true, true_and] at he
     have : n = k := Int.ofNat.inj he
     omega
theorem wrRow_key {t : Nat} : ∀ {l : List XEv} {n : Nat}, ∀ p ∈ wrRow t l n, ∃ k, p.1 = [.ofNat (t + 1), .ofNat k] ∧ n ≤ k
 | [], _, p, h => by cases h
 | e :: l, n, p, h => by
  have h' : p ∈ (bif writesB e then ([.ofNat (t + 1), .ofNat n], e.loc) :: wrRow t l (n + 1) else wrRow t l (n + 1)) := h
  cases hw : writesB e with
  | false =>
   rw [hw] at h'
   obtain ⟨k, h1, h2⟩ := wrRow_key (l := l) p h'
   exact ⟨k, h1, by omega⟩
  | true =>
   rw [hw] at h'
   rcases List.mem_cons.1 h' with rfl | h'
   ·exact ⟨n, rfl, Nat.le_refl _⟩
   ·obtain ⟨k, h1, h2⟩ := wrRow_key (l := l) p h'
    exact ⟨k, h1, by omega⟩
theorem insT_app : ∀ {ls : List (List XEv)} {t : Nat} {m : LM}, (∀ p ∈ m, ∀ s k, t ≤ s → p.1 ≠ [.ofNat (s + 1), .ofNat k]) → insT ls t m = m ++ wrAll ls t
 | [], _, m, _ => by simp [insT, wrAll]
 | l :: ls, t, m, h => by
  show insT ls (t + 1) (insL t l 0 m) = m ++ (wrRow t l 0 ++ wrAll ls (t + 1))
  rw [insL_app fun p hp k _ => h p hp t k (Nat.le_refl _), insT_app (ls := ls) (t := t + 1) fun p hp s k hs => ?_, List.append_assoc]
  rcases List.mem_append.1 hp with hp | hp
  ·exact h p hp s k (by omega)
  ·obtain ⟨k', h1, _⟩ := wrRow_key p hp
   rw [h1]
   intro he
   simp only [List.cons.injEq, and_true] at he
   have : t + 1 = s + 1 := Int.ofNat.inj he.1
   omega
/-- The map that rightOrder makes: all writes. -/
theorem insT_writes {ls : List (List XEv)} : insT ls 0 [] = wrAll ls 0 := by
 rw [insT_app fun p hp => by cases hp]; rfl
def ordRow (loc : Nat) (l : List XId) : LM := l.map fun id => (id.ints, .ofNat loc)
def ordL : List (List XId) → Nat → LM
 | [], _ => []
 | r :: ls, loc => ordRow loc r ++ ordL ls (loc + 1)
theorem eraseIdx_perm {α : Type} : ∀ {m : List α} {j : Nat} {x : α}, m[j]? = some x → m.Perm (x :: m.eraseIdx j)
 | [], _, _, h => by simp at h
 | y :: m, 0, x, h => by
  have : y = x := by simpa using h
  subst this; exact List.Perm.refl _
 | y :: m, j + 1, x, h => by
  have h' : m[j]? = some x := by simpa using h
  exact (List.Perm.cons y (eraseIdx_perm h')).trans (List.Perm.swap x y _)
theorem lmDel_perm {m : LM} {k : List Int} {v : Int} (h : lmGet m k = some v) : m.Perm ((k, v) :: lmDel m k) := by
 unfold lmGet at h
 unfold lmDel
 cases ha : lmAt m k 0 with
 | none => rw [ha] at h; cases h
 | some p =>
  obtain ⟨j, w⟩ := p
  rw [ha] at h
  have hw : w = v := by simpa using h
  subst hw
  exact eraseIdx_perm (lmAt_some ha).2
theorem chkL_perm {loc : Nat} : ∀ {l : List XId} {m m' : LM}, chkL loc l m = some m' → m.Perm (ordRow loc l ++ m')
 | [], m, m', h => by cases h; exact List.Perm.refl _
 | id :: l, m, m', h => by
  have h' : (bif (lmGet m id.ints).isSome then (bif eqI ((lmGet m id.ints).getD 0) (.ofNat loc) then chkL loc l (lmDel m id.ints) else none) else none) = some m' := h
  cases hs : lmGet m id.ints with
  | none => rw [hs] at h'; cases h'
  | some v =>
   rw [hs] at h'
   have h'' : (bif eqI v (.ofNat loc) then chkL loc l (lmDel m id.ints) else none) = some m' := h'
   cases he : eqI v (.ofNat loc) with
   | false => rw [he] at h''; cases h''
   | true =>
    rw [he] at h''
    rw [eqI_eq] at he
    have hv : v = .ofNat loc := of_decide_eq_true he
    subst hv
    exact (lmDel_perm hs).trans (List.Perm.cons _ (chkL_perm (l := l) h''))
theorem chkO_perm : ∀ {ls : List (List XId)} {loc : Nat} {m m' : LM}, chkO ls loc m = some m' → m.Perm (ordL ls loc ++ m')
 | [], _, m, m', h => by cases h; exact List.Perm.refl _
 | r :: ls, loc, m, m', h => by
  have h' : (chkL loc r m).bind (chkO ls (loc + 1)) = some m' := h
  cases hr : chkL loc r m with
  | none => rw [hr] at h'; cases h'
  | some m1 =>
   rw [hr] at h'
   refine (chkL_perm hr).trans ?_
   show (ordRow loc r ++ m1).Perm ((ordRow loc r ++ ordL ls (loc + 1)) ++ m')
   rw [List.append_assoc]
   exact List.Perm.append_left _ (chkO_perm (ls := ls) h')
/-- A right order tells all writes, each once. -/
theorem order_perm {g : XG} (h : rightOrderB g = true) : (wrAll g.threads 0).Perm (ordL g.order 0) := by
 unfold rightOrderB at h
 cases hc : chkO g.order 0 (insT g.threads 0 []) with
 | none => rw [hc] at h; cases h
 | some m =>
  rw [hc] at h
  have h0 : m = [] := by
   have h1 : eqI (.ofNat m.length) (.ofNat 0) = true := h
   rw [eqI_nat] at h1
   exact List.eq_nil_of_length_eq_zero (of_decide_eq_true h1)
  have := chkO_perm hc
  rw [h0, List.append_nil, insT_writes] at this
  exact this
theorem lmAt_mem {k : List Int} {v : Int} : ∀ {m : LM} {i : Nat}, (m.map (·.1)).Nodup → (k, v) ∈ m → ∃ j, lmAt m k i = some (j, v)
 | (k', w) :: m, i, hn, h => by
  rw [List.map_cons, List.nodup_cons] at hn
  show ∃ j, (bif sameX k k' then some (i, w) else lmAt m k (i + 1)) = some (j, v)
  rcases List.mem_cons.1 h with h1 | h1
  ·cases h1
   rw [sameX_iff.2 rfl]; exact ⟨i, rfl⟩
  ·have : sameX k k' = false := by
    cases hh : sameX k k' with
    | false => rfl
    | true =>
     have e := sameX_iff.1 hh
     subst e
     exact (hn.1 (List.mem_map.2 ⟨(k, v), h1, rfl⟩)).elim
   rw [this]
   exact lmAt_mem (m := m) hn.2 h1
theorem chkL_of {loc : Nat} : ∀ {l : List XId} {m rest : LM}, m.Perm (ordRow loc l ++ rest) → (m.map (·.1)).Nodup → ∃ m', chkL loc l m = some m' ∧ m'.Perm rest ∧ (m'.map (·.1)).Nodup
 | [], m, rest, h, hn => ⟨m, rfl, h, hn⟩
 | id :: l, m, rest, h, hn => by
  have hmem : (id.ints, Int.ofNat loc) ∈ m := h.mem_iff.2 (List.mem_cons_self ..)
  obtain ⟨j, hj⟩ := lmAt_mem (i := 0) hn hmem
  have hg : lmGet m id.ints = some (.ofNat loc) := by unfold lmGet; rw [hj]; rfl
  have hp := lmDel_perm hg
  have hp2 : (lmDel m id.ints).Perm (ordRow loc l ++ rest) := List.Perm.cons_inv (hp.symm.trans h)
  have hn2 : ((lmDel m id.ints).map (·.1)).Nodup := by
   have := (hp.map (·.1)).nodup_iff.1 hn
   rw [List.map_cons, List.nodup_cons] at this
   exact this.2
  obtain ⟨m', h1, h2, h3⟩ := chkL_of (l := l) hp2 hn2
  refine ⟨m', ?_, h2, h3⟩
  show (bif (lmGet m id.ints).isSome then (bif eqI ((lmGet m id.ints).getD 0) (.ofNat loc) then chkL loc l (lmDel m id.ints) else none) else none) = some m'
  have he : eqI (.ofNat loc) (.ofNat loc) = true := by rw [eqI_nat]; simp
  rw [hg]
  show (bif eqI (.ofNat loc) (.ofNat loc) then chkL loc l (lmDel m id.ints) else none) = some m'
  rw [he]; exact h1
theorem chkO_of : ∀ {ls : List (List XId)} {loc : Nat} {m : LM}, m.Perm (ordL ls loc) → (m.map (·.1)).Nodup → chkO ls loc m = some []
 | [], _, m, h, _ => by rw [show m = [] from h.eq_nil]; rfl
 | r :: ls, loc, m, h, hn => by
  obtain ⟨m', h1, h2, h3⟩ := chkL_of (l := r) (rest := ordL ls (loc + 1)) h hn
  show (chkL loc r m).bind (chkO ls (loc + 1)) = some []
  rw [h1]
  exact chkO_of (ls := ls) h2 h3
theorem wrRow_nodup {t : Nat} : ∀ {l : List XEv} {n : Nat}, ((wrRow t l n).map (·.1)).Nodup
 | [], _ => List.nodup_nil
 | e :: l, n => by
  show ((bif writesB e then ([.ofNat (t + 1), .ofNat n], e.loc) :: wrRow t l (n + 1) else wrRow t l (n + 1) : LM).map (·.1)).Nodup
  cases writesB e with
  | false => exact wrRow_nodup (l := l)
  | true =>
   show (([Int.ofNat (t + 1), Int.ofNat n], e.loc).1 :: (wrRow t l (n + 1)).map (·.1)).Nodup
   rw [List.nodup_cons]
   refine ⟨fun h => ?_, wrRow_nodup (l := l)⟩
   obtain ⟨p, hp, he⟩ := List.mem_map.1 h
   obtain ⟨k, h1, h2⟩ := wrRow_key p hp
   rw [h1] at he
   simp only [List.cons.injEq, and_true, true_and] at he
   have : k = n := Int.ofNat.inj he
   omega
theorem wrAll_key : ∀ {ls : List (List XEv)} {t : Nat}, ∀ p ∈ wrAll ls t, ∃ s k, p.1 = [.ofNat (s + 1), .ofNat k] ∧ t ≤ s
 | [], _, p, h => by cases h
 | l :: ls, t, p, h => by
  have h' : p ∈ wrRow t l 0 ++ wrAll ls (t + 1) := h
  rcases List.mem_append.1 h' with h' | h'
  ·obtain ⟨k, h1, _⟩ := wrRow_key p h'
   exact ⟨t, k, h1, Nat.le_refl _⟩
  ·obtain ⟨s, k, h1, h2⟩ := wrAll_key (ls := ls) p h'
   exact ⟨s, k, h1, by omega⟩
theorem wrAll_nodup : ∀ {ls : List (List XEv)} {t : Nat}, ((wrAll ls t).map (·.1)).Nodup
 | [], _ => List.nodup_nil
 | l :: ls, t => by
  show ((wrRow t l 0 ++ wrAll ls (t + 1)).map (·.1)).Nodup
  rw [List.map_append, List.nodup_append]
  refine ⟨wrRow_nodup, wrAll_nodup (ls := ls), fun a ha b hb hab => ?_⟩
  obtain ⟨p, hp, rfl⟩ := List.mem_map.1 ha
  obtain ⟨q, hq, rfl⟩ := List.mem_map.1 hb
  obtain ⟨k, h1, _⟩ := wrRow_key p hp
  obtain ⟨s, k', h3, h4⟩ := wrAll_key q hq
  rw [h1, h3] at hab
  simp only [List.cons.injEq, and_true] at hab
  have : t + 1 = s + 1 := Int.ofNat.inj hab.1
  omega
/-- Order is right just if it tells all writes, each once, at its location. -/
theorem rightOrder_iff {g : XG} : rightOrderB g = true ↔ (wrAll g.threads 0).Perm (ordL g.order 0) := by
 refine ⟨order_perm, fun h => ?_⟩
 unfold rightOrderB
 rw [insT_writes, chkO_of h wrAll_nodup]
 rfl
end Go.Ev

/- Plain law: events of two threads may be added in either order. -/
namespace Go.Ev
variable [Env]
theorem wrRow_snoc {t : Nat} {e : XEv} : ∀ (l : List XEv) (n : Nat), wrRow t (l ++ [e]) n = wrRow t l n ++ wrRow t [e] (n + l.length)
 | [], n => rfl
 | x :: l, n => by
  show (bif writesB x then ([.ofNat (t + 1), .ofNat n], x.loc) :: wrRow t (l ++ [e]) (n + 1) else wrRow t (l ++ [e]) (n + 1)) = (bif writesB x then ([.ofNat (t + 1), .ofNat n], x.loc) :: wrRow t l (n + 1) else wrRow t l (n + 1)) ++ wrRow t [e] (n + (l.length + 1))
  rw [wrRow_snoc l (n + 1), show n + 1 + l.length = n + (l.length + 1) by omega]
  cases writesB x <;> rfl
theorem wrAll_set {row : List XEv} {e : XEv} : ∀ {ls : List (List XEv)} {t tm : Nat}, ls[tm]? = some row → (wrAll (ls.set tm (row ++ [e])) t).Perm (wrRow (t + tm) [e] row.length ++ wrAll ls t)
 | [], _, _, h => by simp at h
 | l :: ls, t, 0, h => by
  have : l = row := by simpa using h
  subst this
  show (wrRow t (l ++ [e]) 0 ++ wrAll ls (t + 1)).Perm (wrRow (t + 0) [e] l.length ++ (wrRow t l 0 ++ wrAll ls (t + 1)))
  rw [wrRow_snoc, Nat.zero_add, Nat.add_zero, ← List.append_assoc]
  exact List.Perm.append_right _ List.perm_append_comm
 | l :: ls, t, tm + 1, h => by
  have h' : ls[tm]? = some row := by simpa using h
  show (wrRow t l 0 ++ wrAll (ls.set tm (row ++ [e])) (t + 1)).Perm (wrRow (t + (tm + 1)) [e] row.length ++ (wrRow t l 0 ++ wrAll ls (t + 1)))
  refine (List.Perm.append_left _ (wrAll_set h')).trans ?_
  rw [show t + 1 + tm = t + (tm + 1) by omega, ← List.append_assoc, ← List.append_assoc]
  exact List.Perm.append_right _ List.perm_append_comm
theorem ordRow_ins {loc p : Nat} {id : XId} {r : List XId} : (ordRow loc (r.take p ++ id :: r.drop p)).Perm ((id.ints, .ofNat loc) :: ordRow loc r) := by
 have h : (r.take p ++ id :: r.drop p).Perm (id :: r) := by
  have := List.perm_middle (a := id) (l₁ := r.take p) (l₂ := r.drop p)
  rwa [List.take_append_drop] at this
 exact h.map fun x : XId => (x.ints, Int.ofNat loc)
theorem ordL_set {p : Nat} {id : XId} {r : List XId} : ∀ {ls : List (List XId)} {loc ln : Nat}, ls[ln]? = some r → (ordL (ls.set ln (r.take p ++ id :: r.drop p)) loc).Perm ((id.ints, .ofNat (loc + ln)) :: ordL ls loc)
 | [], _, _, h => by simp at h
 | l :: ls, loc, 0, h => by
  have : l = r := by simpa using h
  subst this
  show (ordRow loc (l.take p ++ id :: l.drop p) ++ ordL ls (loc + 1)).Perm ((id.ints, .ofNat (loc + 0)) :: (ordRow loc l ++ ordL ls (loc + 1)))
  exact List.Perm.append_right _ ordRow_ins
 | l :: ls, loc, ln + 1, h => by
  have h' : ls[ln]? = some r := by simpa using h
  show (ordRow loc l ++ ordL (ls.set ln (r.take p ++ id :: r.drop p)) (loc + 1)).Perm ((id.ints, .ofNat (loc + (ln + 1))) :: (ordRow loc l ++ ordL ls (loc + 1)))
  refine (List.Perm.append_left _ (ordL_set h')).trans ?_
  rw [show loc + 1 + ln = loc + (ln + 1) by omega]
  exact List.perm_middle
theorem rowB_iff {g : XG} {t : Nat} : ∀ {l : List XEv} {f : List XId} {n : Nat}, f.length = l.length → (rowB g t l f n = true ↔ ∀ i e q, l[i]? = some e → f[i]? = some q → okE g t (n + i) e q = true)
 | [], f, n, h => ⟨fun _ i e q h1 => by simp at h1, fun _ => rfl⟩
 | x :: l, [], n, h => by cases h
 | x :: l, y :: f, n, h => by
  have hl : f.length = l.length := by simpa using h
  show (bif okE g t n x y then rowB g t l f (n + 1) else false) = true ↔ _
  constructor
  ·intro hh i e q h1 h2
   cases ho : okE g t n x y with
   | false => rw [ho] at hh; cases hh
   | true =>
    rw [ho] at hh
    cases i with
    | zero =>
     have e1 : x = e := by simpa using h1
     have e2 : y = q := by simpa using h2
     subst e1 e2; exact ho
    | succ i =>
     have := (rowB_iff hl).1 hh i e q (by simpa using h1) (by simpa using h2)
     rwa [show n + 1 + i = n + (i + 1) by omega] at this
  ·intro hh
   rw [show okE g t n x y = true from hh 0 x y rfl rfl]
   refine (rowB_iff hl).2 fun i e q h1 h2 => ?_
   have := hh (i + 1) e q (by simpa using h1) (by simpa using h2)
   rwa [show n + (i + 1) = n + 1 + i by omega] at this
theorem rowsB_iff {g : XG} : ∀ {ls : List (List XEv)} {fs : List (List XId)} {t : Nat}, fs.length = ls.length → (rowsB g ls fs t = true ↔ ∀ i l f, ls[i]? = some l → fs[i]? = some f → f.length = l.length ∧ ∀ j e q, l[j]? = some e → f[j]? = some q → okE g (t + i) j e q = true)
 | [], f, n, h => ⟨fun _ i e q h1 => by simp at h1, fun _ => rfl⟩
 | x :: l, [], n, h => by cases h
 | x :: l, y :: f, t, h => by
  have hl : f.length = l.length := by simpa using h
  show (bif eqI (.ofNat y.length) (.ofNat x.length) then (bif rowB g t x y 0 then rowsB g l f (t + 1) else false) else false) = true ↔ _
  constructor
  ·intro hh i e q h1 h2
   cases he : eqI (.ofNat y.length) (.ofNat x.length) with
   | false => rw [he] at hh; cases hh
   | true =>
    rw [he] at hh
    cases ho : rowB g t x y 0 with
    | false => rw [ho] at hh; cases hh
    | true =>
     rw [ho] at hh
     cases i with
     | zero =>
      have e1 : x = e := by simpa using h1
      have e2 : y = q := by simpa using h2
      subst e1 e2
      refine ⟨len_of he, fun j w z k1 k2 => ?_⟩
      have := (rowB_iff (len_of he)).1 ho j w z k1 k2
      rwa [Nat.zero_add] at this
     | succ i =>
      have := (rowsB_iff hl).1 hh i e q (by simpa using h1) (by simpa using h2)
      rwa [show t + 1 + i = t + (i + 1) by omega] at this
  ·intro hh
   obtain ⟨h1, h2⟩ := hh 0 x y rfl rfl
   rw [show eqI (.ofNat y.length) (.ofNat x.length) = true by rw [eqI_nat]; simp [h1]]
   rw [show rowB g t x y 0 = true from (rowB_iff h1).2 fun i e q k1 k2 => by have := h2 i e q k1 k2; rwa [Nat.zero_add]]
   refine (rowsB_iff hl).2 fun i e q k1 k2 => ?_
   have := hh (i + 1) e q (by simpa using k1) (by simpa using k2)
   rwa [show t + (i + 1) = t + 1 + i by omega] at this
/-- What a right graph is. -/
structure Right (g : XG) : Prop where
 threads : g.threads.length ≤ 4
 init : g.init.length ≤ 6
 short : ∀ (i : Nat) (l : List XEv), g.threads[i]? = some l → l.length ≤ 14
 from_ : g.from_.length = g.threads.length
 order : g.order.length = g.init.length
 rows : ∀ (i : Nat) (l : List XEv) (f : List XId), g.threads[i]? = some l → g.from_[i]? = some f → f.length = l.length ∧ ∀ (j : Nat) (e : XEv) (q : XId), l[j]? = some e → f[j]? = some q → okE g i j e q = true
 perm : (wrAll g.threads 0).Perm (ordL g.order 0)
theorem right_iff {g : XG} : checkI g = 0 ↔ Right g := by
 constructor
 ·intro h
  obtain ⟨b1, b2, b3, b4, b5, b6, b7⟩ := check_bounds h
  refine ⟨b1, b2, fun i l hl => b3 l (List.mem_of_getElem? hl), b4, b5, fun i l f k1 k2 => ?_, rightOrder_iff.1 b7⟩
  have := (rowsB_iff b4).1 b6 i l f k1 k2
  rwa [Nat.zero_add] at this
 ·intro h
  unfold checkI
  have h1 : tooLongB g = false := by
   unfold tooLongB
   rw [show ltI 4 (.ofNat g.threads.length) = false by rw [show (4 : Int) = .ofNat 4 from rfl, ltI_nat]; have := h.threads; simp; omega]
   rw [show ltI 6 (.ofNat g.init.length) = false by rw [show (6 : Int) = .ofNat 6 from rfl, ltI_nat]; have := h.init; simp; omega]
   show (g.threads.any fun l => ltI 14 (.ofNat l.length)) = false
   rw [List.any_eq_false]
   intro l hl
   obtain ⟨i, hi⟩ := List.getElem?_of_mem hl
   have := h.short i l hi
   rw [show (14 : Int) = .ofNat 14 from rfl, ltI_nat]; simp; omega
  rw [h1]
  rw [show eqI (.ofNat g.from_.length) (.ofNat g.threads.length) = true by rw [eqI_nat]; simp [h.from_]]
  rw [show eqI (.ofNat g.order.length) (.ofNat g.init.length) = true by rw [eqI_nat]; simp [h.order]]
  rw [show rowsB g g.threads g.from_ 0 = true from (rowsB_iff h.from_).2 fun i l f k1 k2 => by have := h.rows i l f k1 k2; rwa [Nat.zero_add]]
  rw [rightOrder_iff.2 h.perm]
  rfl
/-- What is right stays right where events stay what they are. -/
theorem okE_mono {g g' : XG} {t n : Nat} {e : XEv} {q : XId} (hm : ∀ id w, evAt g id = some w → evAt g' id = some w) (hi : g'.init = g.init) (he : evAt g ⟨.ofNat (t + 1), .ofNat n⟩ = some e) (h : okE g t n e q = true) : okE g' t n e q = true := by
 unfold okE at h ⊢
 rw [hi]
 cases hr : rightEvB e (.ofNat g.init.length) with
 | false => rw [hr] at h; cases h
 | true =>
  rw [hr] at h
  have h : rightFromB g ⟨.ofNat (t + 1), .ofNat n⟩ q = true := h
  show rightFromB g' ⟨.ofNat (t + 1), .ofNat n⟩ q = true
  unfold rightFromB at h ⊢
  rw [he] at h
  rw [hm _ _ he]
  cases hq : evAt g q with
  | none =>
   rw [hq] at h
   cases hrd : readsB (evD (some e)) with
   | false => rw [hrd] at h; exact h
   | true => rw [hrd] at h; cases h
  | some w =>
   rw [hq] at h
   rw [hm _ _ hq]
   exact h
/-! Growth. -/
noncomputable def ordW (o : List (List XId)) (e : XEv) (id : XId) (pl : Int) : List (List XId) :=
 bif writesB e then o.set e.loc.toNat (((o[e.loc.toNat]?).getD []).take (pl.toNat - 1) ++ id :: ((o[e.loc.toNat]?).getD []).drop (pl.toNat - 1)) else o
theorem grownG_eq {g : XG} {tm : Nat} {e : XEv} {fr : XId} {pl : Int} {row : List XEv} {frow : List XId} : grownG g tm e fr pl row frow = ⟨g.init, g.threads.set tm (row ++ [e]), g.from_.set tm (frow ++ [fr]), ordW g.order e ⟨.ofNat (tm + 1), .ofNat row.length⟩ pl⟩ := rfl
theorem ordW_comm {o : List (List XId)} {e f : XEv} {i j : XId} {pl sp : Int} (h : writesB e = true → writesB f = true → e.loc.toNat ≠ f.loc.toNat) : ordW (ordW o e i pl) f j sp = ordW (ordW o f j sp) e i pl := by
 unfold ordW
 cases he : writesB e with
 | false => rfl
 | true =>
  cases hf : writesB f with
  | false => rfl
  | true =>
   have hn := h he hf
   simp only [cond_true]
   rw [List.getElem?_set_ne hn, List.getElem?_set_ne (Ne.symm hn), List.set_comm _ _ hn]
theorem ordW_perm {o : List (List XId)} {e : XEv} {tm n : Nat} {pl : Int} (h : writesB e = true → ∃ (ln : Nat) (r : List XId), e.loc = .ofNat ln ∧ o[ln]? = some r) : (ordL (ordW o e ⟨.ofNat (tm + 1), .ofNat n⟩ pl) 0).Perm (wrRow tm [e] n ++ ordL o 0) := by
 unfold ordW
 show List.Perm _ ((bif writesB e then ([.ofNat (tm + 1), .ofNat n], e.loc) :: [] else []) ++ ordL o 0)
 cases he : writesB e with
 | false => exact List.Perm.refl _
 | true =>
  obtain ⟨ln, r, h1, h2⟩ := h he
  rw [h1]
  simp only [cond_true]
  rw [show (Int.ofNat ln).toNat = ln from rfl, h2]
  have := ordL_set (p := pl.toNat - 1) (id := ⟨.ofNat (tm + 1), .ofNat n⟩) (loc := 0) h2
  rw [Nat.zero_add] at this
  exact this
theorem badPlace_loc {g : XG} {e : XEv} {pl : Int} (h : badPlace g e pl = false) (hw : writesB e = true) : ∃ (ln : Nat) (r : List XId), e.loc = .ofNat ln ∧ g.order[ln]? = some r ∧ (writesG g e.loc).length = r.length + 1 := by
 unfold badPlace at h
 rw [hw] at h
 have h : (bif ltI pl 1 then true else ltI (.ofNat (writesG g e.loc).length) pl) = false := h
 cases h1 : ltI pl 1 with
 | true => rw [h1] at h; cases h
 | false =>
  rw [h1] at h
  obtain ⟨m, rfl⟩ := pos_of h1
  have h2 : ltI (.ofNat (writesG g e.loc).length) (.ofNat (m + 1)) = false := h
  have := lt_no h2
  exact writes_pos (by omega)
theorem badPlace_same {g a : XG} {e : XEv} {pl : Int} (hc : checkI a = 0) (h : badPlace g e pl = false) (ho : writesB e = true → a.order[e.loc.toNat]? = g.order[e.loc.toNat]?) : badPlace a e pl = false := by
 cases hw : writesB e with
 | false =>
  unfold badPlace at h ⊢
  rw [hw] at h ⊢
  exact h
 | true =>
  obtain ⟨ln, r, h1, h2, h3⟩ := badPlace_loc h hw
  have ho := ho hw
  rw [h1] at ho
  have h4 : a.order[ln]? = some r := by rw [← h2]; exact ho
  have h5 : (writesG a e.loc).length = r.length + 1 := by
   rw [h1, writesG_at (by rw [hc]; rfl) h4]; rfl
  unfold badPlace at h ⊢
  rw [h5]
  rw [h3] at h
  exact h
theorem addG_inv {g a : XG} {th pl : Int} {e : XEv} {fr : XId} (h : addG g th e fr pl = (some a, 0)) : checkI g = 0 ∧ ∃ tm row frow, th = .ofNat (tm + 1) ∧ g.threads[tm]? = some row ∧ g.from_[tm]? = some frow ∧ ltI (.ofNat row.length) 14 = true ∧ badPlace g e pl = false ∧ a = grownG g tm e fr pl row frow ∧ checkI a = 0 := by
 cases hc : eqI (checkI g) 0 with
 | false => rw [addG_chk hc] at h; cases h
 | true =>
  refine ⟨eq0 hc, ?_⟩
  cases h1 : ltI th 1 with
  | true => rw [addG_low hc h1] at h; cases h
  | false =>
   cases h2 : ltI (.ofNat g.threads.length) th with
   | true => rw [addG_big hc h1 h2] at h; cases h
   | false =>
    obtain ⟨tm, rfl⟩ := pos_of h1
    have htm : tm < g.threads.length := by have := lt_no h2; omega
    obtain ⟨row, hrow⟩ := at_of htm
    obtain ⟨frow, hfrow⟩ := at_of (show tm < g.from_.length by rw [(check_bounds (eq0 hc)).2.2.2.1]; exact htm)
    rw [addG_at hc hrow hfrow] at h
    cases h3 : ltI (.ofNat row.length) 14 with
    | false => rw [h3] at h; cases h
    | true =>
     rw [h3] at h
     rcases Bool.eq_false_or_eq_true (badPlace g e pl) with h4 | h4
     ·rw [h4] at h; cases h
     ·rw [h4] at h
      cases h5 : eqI (checkI (grownG g tm e fr pl row frow)) 0 with
      | false => rw [h5] at h; cases h
      | true =>
       rw [h5] at h
       have h6 : (some (grownG g tm e fr pl row frow), (0 : Int)) = (some a, 0) := h
       have h7 : grownG g tm e fr pl row frow = a := by cases h6; rfl
       subst h7
       exact ⟨tm, row, frow, rfl, hrow, hfrow, h3, h4, rfl, eq0 h5⟩
/-- A right graph of two right ones. -/
theorem right_twice {g a b c : XG} {sm tm : Nat} {e f : XEv} {fr so : XId} {row row2 : List XEv} {frow frow2 : List XId} (ha : Right a) (hb : Right b) (hn : sm ≠ tm) (k1 : g.threads[sm]? = some row) (k2 : g.threads[tm]? = some row2) (q1 : g.from_[sm]? = some frow) (q2 : g.from_[tm]? = some frow2)
  (a1 : a.init = g.init) (a2 : a.threads = g.threads.set sm (row ++ [e])) (a3 : a.from_ = g.from_.set sm (frow ++ [fr]))
  (b1 : b.init = g.init) (b2 : b.threads = g.threads.set tm (row2 ++ [f])) (b3 : b.from_ = g.from_.set tm (frow2 ++ [so]))
  (c1 : c.init = g.init) (c2 : c.threads = a.threads.set tm (row2 ++ [f])) (c3 : c.from_ = a.from_.set tm (frow2 ++ [so])) (c4 : c.order.length = g.order.length) (a4 : a.order.length = g.order.length) (hp : (wrAll c.threads 0).Perm (ordL c.order 0)) : Right c := by
 have hs : sm < g.threads.length := (List.getElem?_eq_some_iff.1 k1).1
 have ht : tm < g.threads.length := (List.getElem?_eq_some_iff.1 k2).1
 have hs' : sm < g.from_.length := (List.getElem?_eq_some_iff.1 q1).1
 have ht' : tm < g.from_.length := (List.getElem?_eq_some_iff.1 q2).1
 have d2 : c.threads = b.threads.set sm (row ++ [e]) := by rw [c2, a2, b2, List.set_comm _ _ hn]
 have at2 : a.threads[tm]? = some row2 := by rw [a2, List.getElem?_set_ne hn, k2]
 have bt1 : b.threads[sm]? = some row := by rw [b2, List.getElem?_set_ne (Ne.symm hn), k1]
 have bt2 : b.threads[tm]? = some (row2 ++ [f]) := by rw [b2, List.getElem?_set_self ht]
 have bf2 : b.from_[tm]? = some (frow2 ++ [so]) := by rw [b3, List.getElem?_set_self ht']
 have ct2 : c.threads[tm]? = some (row2 ++ [f]) := by rw [c2, List.getElem?_set_self (by rw [a2, List.length_set]; exact ht)]
 have cf2 : c.from_[tm]? = some (frow2 ++ [so]) := by rw [c3, List.getElem?_set_self (by rw [a3, List.length_set]; exact ht')]
 have cto : ∀ i, i ≠ tm → c.threads[i]? = a.threads[i]? := fun i hi => by rw [c2, List.getElem?_set_ne (Ne.symm hi)]
 have cfo : ∀ i, i ≠ tm → c.from_[i]? = a.from_[i]? := fun i hi => by rw [c3, List.getElem?_set_ne (Ne.symm hi)]
 have ma : ∀ id w, evAt a id = some w → evAt c id = some w := fun id w h => evAt_old at2 (by rw [c1, a1]) c2 h
 have mb : ∀ id w, evAt b id = some w → evAt c id = some w := fun id w h => evAt_old bt1 (by rw [c1, b1]) d2 h
 refine ⟨by rw [c2, List.length_set]; exact ha.threads, by rw [c1, ← a1]; exact ha.init, fun i l hl => ?_, by rw [c2, c3, List.length_set, List.length_set]; exact ha.from_, by rw [c4, ← a4, c1, ← a1]; exact ha.order, fun i l fl hl hfl => ?_, hp⟩
 ·by_cases hi : i = tm
  ·subst hi
   rw [ct2] at hl
   exact hb.short i l (by rw [bt2]; exact hl)
  ·rw [cto i hi] at hl
   exact ha.short i l hl
 ·by_cases hi : i = tm
  ·subst hi
   rw [ct2] at hl
   rw [cf2] at hfl
   have hbt : b.threads[i]? = some l := by rw [bt2]; exact hl
   obtain ⟨r1, r2⟩ := hb.rows i l fl hbt (by rw [bf2]; exact hfl)
   exact ⟨r1, fun j w q h1 h2 => okE_mono mb (by rw [c1, b1]) (by rw [evAt_row, hbt]; exact h1) (r2 j w q h1 h2)⟩
  ·rw [cto i hi] at hl
   rw [cfo i hi] at hfl
   obtain ⟨r1, r2⟩ := ha.rows i l fl hl hfl
   exact ⟨r1, fun j w q h1 h2 => okE_mono ma (by rw [c1, a1]) (by rw [evAt_row, hl]; exact h1) (r2 j w q h1 h2)⟩
theorem ordW_length {o : List (List XId)} {e : XEv} {id : XId} {pl : Int} : (ordW o e id pl).length = o.length := by
 unfold ordW
 cases writesB e with
 | false => rfl
 | true => exact List.length_set
theorem ordW_at {o : List (List XId)} {e : XEv} {id : XId} {pl : Int} {k : Nat} (h : writesB e = true → e.loc.toNat ≠ k) : (ordW o e id pl)[k]? = o[k]? := by
 unfold ordW
 cases hw : writesB e with
 | false => rfl
 | true => exact List.getElem?_set_ne (h hw)
/-- One half. -/
theorem add_half {g a b : XG} {sm tm : Nat} {e f : XEv} {fr so : XId} {pl sp : Int} {row row2 : List XEv} {frow frow2 : List XId} (hn : sm ≠ tm) (hloc : writesB e = true → writesB f = true → e.loc.toNat ≠ f.loc.toNat)
  (k1 : g.threads[sm]? = some row) (k2 : g.threads[tm]? = some row2) (q1 : g.from_[sm]? = some frow) (q2 : g.from_[tm]? = some frow2) (l2 : ltI (.ofNat row2.length) 14 = true) (p2 : badPlace g f sp = false)
  (ea : a = grownG g sm e fr pl row frow) (eb : b = grownG g tm f so sp row2 frow2) (ha : checkI a = 0) (hb : checkI b = 0) :
  addG a (.ofNat (tm + 1)) f so sp = (some (grownG a tm f so sp row2 frow2), 0) := by
 rw [grownG_eq] at ea eb
 have ao : writesB f = true → a.order[f.loc.toNat]? = g.order[f.loc.toNat]? := fun hf => by
  rw [ea]; exact ordW_at fun he => hloc he hf
 have at2 : a.threads[tm]? = some row2 := by rw [ea]; show (g.threads.set sm _)[tm]? = _; rw [List.getElem?_set_ne hn, k2]
 have af2 : a.from_[tm]? = some frow2 := by rw [ea]; show (g.from_.set sm _)[tm]? = _; rw [List.getElem?_set_ne hn, q2]
 have hc : checkI (grownG a tm f so sp row2 frow2) = 0 := by
  refine right_iff.2 (right_twice (g := g) (right_iff.1 ha) (right_iff.1 hb) hn k1 k2 q1 q2 (by rw [ea]) (by rw [ea]) (by rw [ea]) (by rw [eb]) (by rw [eb]) (by rw [eb]) (by rw [grownG_eq, ea]) rfl rfl ?_ (by rw [ea]; exact ordW_length) ?_)
  ·show (ordW a.order f _ sp).length = _
   rw [ordW_length, ea]; exact ordW_length
  ·refine (wrAll_set at2).trans ?_
   rw [Nat.zero_add]
   refine ((List.Perm.append_left _ (right_iff.1 ha).perm)).trans (List.Perm.symm (ordW_perm fun hf => ?_))
   obtain ⟨ln, r, h1, h2, _⟩ := badPlace_loc p2 hf
   refine ⟨ln, r, h1, ?_⟩
   have := ao hf
   rw [h1] at this
   rw [← h2]; exact this
 rw [addG_at (by rw [ha]; rfl) at2 af2, l2, badPlace_same ha p2 ao, hc]
 rfl
/-- Events of two threads may be added in either order. -/
theorem addG_comm {g a b : XG} {s t pl sp : Int} {e f : XEv} {fr so : XId} (ha : addG g s e fr pl = (some a, 0)) (hb : addG g t f so sp = (some b, 0)) (hst : s ≠ t) (hloc : writesB e = true → writesB f = true → e.loc ≠ f.loc) :
  ∃ c, addG a t f so sp = (some c, 0) ∧ addG b s e fr pl = (some c, 0) := by
 obtain ⟨hg, sm, row, frow, rfl, k1, q1, l1, p1, ea, ca⟩ := addG_inv ha
 obtain ⟨_, tm, row2, frow2, rfl, k2, q2, l2, p2, eb, cb⟩ := addG_inv hb
 have hn : sm ≠ tm := fun h => hst (by rw [h])
 have hl : writesB e = true → writesB f = true → e.loc.toNat ≠ f.loc.toNat := fun he hf hh => by
  obtain ⟨x, _, h1, _⟩ := badPlace_loc p1 he
  obtain ⟨y, _, h2, _⟩ := badPlace_loc p2 hf
  refine hloc he hf ?_
  rw [h1, h2] at hh ⊢
  have : x = y := hh
  rw [this]
 have r1 := add_half (pl := pl) hn hl k1 k2 q1 q2 l2 p2 ea eb ca cb
 have r2 := add_half (pl := sp) (Ne.symm hn) (fun hf he => Ne.symm (hl he hf)) k2 k1 q2 q1 l1 p1 eb ea cb ca
 refine ⟨_, r1, ?_⟩
 rw [r2]
 congr 2
 rw [grownG_eq, grownG_eq, ea, eb, grownG_eq, grownG_eq]
 show XG.mk _ _ _ _ = XG.mk _ _ _ _
 congr 1
 ·exact (List.set_comm _ _ hn).symm
 ·exact (List.set_comm _ _ hn).symm
 ·exact (ordW_comm hl).symm
end Go.Ev

/- A walk cut behind a piece of code: what the rest is to know. -/
namespace Go.Ev
variable [Env]
section
variable {P : Program} {G : Cx} {n : Nat} {t : PT AV} {σ : AHeap} {Q : Ex → PT AV → AHeap → Prop}
def cutQ (W : List Nat) (t : PT AV) (I : PT AV → AHeap → Prop) (e : Ex) (t' : PT AV) (σ' : AHeap) : Prop := e = .normal ∧ OffW W t t' ∧ I t' σ'
theorem ev_cutW {a b : Code} (W : List Nat) (I : PT AV → AHeap → Prop) (h1 : Ev P G a n t σ (cutQ W t I)) (h2 : ∀ t' σ', OffW W t t' → I t' σ' → Ev P G b n t' σ' Q) : Ev P G (.seq a b) n t σ Q :=
 eS (h1.mono fun e t' σ' h => by obtain ⟨rfl, h3, h4⟩ := h; exact h2 t' σ' h3 h4)
end
end Go.Ev

/- Plain law: the order of graphs is one. -/
namespace Go.Ev
variable [Env]
theorem cmpZ_cases (x y : Int) : (x < y ∧ cmpZ x y = -1) ∨ (x = y ∧ cmpZ x y = 0) ∨ (y < x ∧ cmpZ x y = 1) := by
 unfold cmpZ
 rw [ltI_eq, ltI_eq]
 by_cases h1 : x < y
 ·exact .inl ⟨h1, by simp [h1]⟩
 ·by_cases h2 : y < x
  ·exact .inr (.inr ⟨h2, by simp [h1, h2]⟩)
  ·exact .inr (.inl ⟨by omega, by simp [h1, h2]⟩)
/-- An order, of which equals may be unlike. -/
structure Pre {α : Type} (c : α → α → Int) : Prop where
 anti : ∀ x y, c y x = -c x y
 small : ∀ x y, -1 ≤ c x y ∧ c x y ≤ 1
 trans : ∀ x y z, c x y ≤ 0 → c y z ≤ 0 → c x z ≤ 0
theorem pre_Z : Pre cmpZ where
 anti x y := by rcases cmpZ_cases x y with ⟨h, e⟩ | ⟨h, e⟩ | ⟨h, e⟩ <;> rcases cmpZ_cases y x with ⟨h', e'⟩ | ⟨h', e'⟩ | ⟨h', e'⟩ <;> omega
 small x y := by rcases cmpZ_cases x y with ⟨h, e⟩ | ⟨h, e⟩ | ⟨h, e⟩ <;> omega
 trans x y z := by rcases cmpZ_cases x y with ⟨h, e⟩ | ⟨h, e⟩ | ⟨h, e⟩ <;> rcases cmpZ_cases y z with ⟨h', e'⟩ | ⟨h', e'⟩ | ⟨h', e'⟩ <;> rcases cmpZ_cases x z with ⟨h2, e2⟩ | ⟨h2, e2⟩ | ⟨h2, e2⟩ <;> omega
theorem Pre.pull {α β : Type} {c : α → α → Int} (h : Pre c) (f : β → α) : Pre fun x y => c (f x) (f y) := ⟨fun x y => h.anti _ _, fun x y => h.small _ _, fun x y z => h.trans _ _ _⟩
theorem lexI (a b : Int) : (bif eqI a 0 then b else a) = if a = 0 then b else a := by
 rw [eqI_eq]
 by_cases h : a = 0 <;> simp [h]
theorem Pre.lex {α : Type} {c d : α → α → Int} (hc : Pre c) (hd : Pre d) : Pre fun x y => bif eqI (c x y) 0 then d x y else c x y where
 anti x y := by
  have h1 := hc.anti x y
  have h2 := hd.anti x y
  simp only [lexI]
  split <;> split <;> omega
 small x y := by
  have h1 := hc.small x y
  have h2 := hd.small x y
  simp only [lexI]
  split <;> omega
 trans x y z := by
  have a1 := hc.anti x y; have a2 := hc.anti y z; have a3 := hc.anti x z
  have t1 := hc.trans x y z; have t2 := hc.trans z y x; have t3 := hc.trans y z x; have t4 := hc.trans z x y; have t5 := hc.trans y x z; have t6 := hc.trans x z y
  have td := hd.trans x y z
  simp only [lexI]
  split <;> split <;> split <;> omega
theorem Pre.fz {α : Type} {c : α → α → Int} {l : α → α → List Int} (hc : Pre c) (h : Pre fun x y => fnz (l x y)) : Pre fun x y => fnz (c x y :: l x y) := hc.lex h
theorem pre_nil {α : Type} : Pre fun _ _ : α => fnz [] := ⟨fun _ _ => rfl, fun _ _ => ⟨by decide, by decide⟩, fun _ _ _ _ _ => by decide⟩
theorem pre_L {α : Type} {c : α → α → Int} (hc : Pre c) : Pre (cmpL c) where
 anti := by
  intro l
  induction l with
  | nil => intro m; cases m <;> rfl
  | cons x l ih =>
   intro m
   cases m with
   | nil => rfl
   | cons y m =>
    show (bif eqI (c y x) 0 then cmpL c m l else c y x) = -(bif eqI (c x y) 0 then cmpL c l m else c x y)
    have h1 := hc.anti x y
    have h2 := ih m
    simp only [lexI]
    split <;> split <;> omega
 small := by
  intro l
  induction l with
  | nil =>
   intro m
   cases m with
   | nil => exact (by decide : (-1 : Int) ≤ 0 ∧ (0 : Int) ≤ 1)
   | cons y m => exact (by decide : (-1 : Int) ≤ -1 ∧ (-1 : Int) ≤ 1)
  | cons x l ih =>
   intro m
   cases m with
   | nil => exact (by decide : (-1 : Int) ≤ 1 ∧ (1 : Int) ≤ 1)
   | cons y m =>
    show -1 ≤ (bif eqI (c x y) 0 then cmpL c l m else c x y) ∧ (bif eqI (c x y) 0 then cmpL c l m else c x y) ≤ 1
    have h1 := hc.small x y
    have h2 := ih m
    simp only [lexI]
    split <;> omega
 trans := by
  intro l
  induction l with
  | nil => intro m n _ _; cases n <;> first | exact (by decide : (0 : Int) ≤ 0) | exact (by decide : (-1 : Int) ≤ 0)
  | cons x l ih =>
   intro m n
   cases m with
   | nil => intro h; exact absurd (show (1 : Int) ≤ 0 from h) (by decide)
   | cons y m =>
    cases n with
    | nil => intro _ h; exact absurd (show (1 : Int) ≤ 0 from h) (by decide)
    | cons z n =>
     show (bif eqI (c x y) 0 then cmpL c l m else c x y) ≤ 0 → (bif eqI (c y z) 0 then cmpL c m n else c y z) ≤ 0 → (bif eqI (c x z) 0 then cmpL c l n else c x z) ≤ 0
     have a1 := hc.anti x y; have a2 := hc.anti y z; have a3 := hc.anti x z
     have t1 := hc.trans x y z; have t2 := hc.trans z y x; have t3 := hc.trans y z x; have t4 := hc.trans z x y; have t5 := hc.trans y x z; have t6 := hc.trans x z y
     have td := ih m n
     simp only [lexI]
     split <;> split <;> split <;> omega
theorem pre_Len {α : Type} : Pre (cmpLen (α := α)) := pre_Z.pull fun l : List α => .ofNat l.length
theorem pre_Id : Pre cmpId := (pre_Z.pull XId.thread).fz ((pre_Z.pull XId.index).fz pre_nil)
theorem pre_Ev : Pre cmpEv := (pre_Z.pull XEv.kind).fz ((pre_Z.pull XEv.loc).fz ((pre_Z.pull XEv.order).fz ((pre_Z.pull XEv.read).fz ((pre_Z.pull XEv.write).fz pre_nil))))
theorem pre_Ids : Pre cmpIds := pre_Len.fz ((pre_L pre_Id).fz pre_nil)
theorem pre_G : Pre cmpG :=
 (pre_Len.pull XG.threads).fz (((pre_L pre_Len).pull XG.threads).fz (((pre_L (pre_L pre_Ev)).pull XG.threads).fz ((pre_Len.pull XG.from_).fz (((pre_L pre_Ids).pull XG.from_).fz ((pre_Len.pull XG.order).fz (((pre_L pre_Ids).pull XG.order).fz ((pre_Len.pull XG.init).fz (((pre_L pre_Z).pull XG.init).fz pre_nil))))))))
/-! 0 just of equals. -/
theorem cmpZ_eq {x y : Int} (h : cmpZ x y = 0) : x = y := by rcases cmpZ_cases x y with ⟨h', e⟩ | ⟨h', e⟩ | ⟨h', e⟩ <;> omega
theorem fnz_eq {x : Int} {l : List Int} (h : fnz (x :: l) = 0) : x = 0 ∧ fnz l = 0 := by
 have h : (bif eqI x 0 then fnz l else x) = 0 := h
 rw [lexI] at h
 split at h
 ·exact ⟨by assumption, h⟩
 ·contradiction
theorem cmpL_eq {α : Type} {c : α → α → Int} (hc : ∀ x y, c x y = 0 → x = y) : ∀ {l m : List α}, cmpL c l m = 0 → l = m
 | [], [], _ => rfl
 | [], _ :: _, h => absurd (show (-1 : Int) = 0 from h) (by decide)
 | _ :: _, [], h => absurd (show (1 : Int) = 0 from h) (by decide)
 | x :: l, y :: m, h => by
  have h : (bif eqI (c x y) 0 then cmpL c l m else c x y) = 0 := h
  rw [lexI] at h
  split at h
  ·rename_i h1
   rw [hc x y h1, cmpL_eq hc h]
  ·contradiction
theorem cmpId_eq (x y : XId) (h : cmpId x y = 0) : x = y := by
 obtain ⟨h1, h⟩ := fnz_eq h
 obtain ⟨h2, h⟩ := fnz_eq h
 cases x; cases y
 have h1 := cmpZ_eq h1; have h2 := cmpZ_eq h2
 dsimp only at h1 h2
 rw [h1, h2]
theorem cmpEv_eq (x y : XEv) (h : cmpEv x y = 0) : x = y := by
 obtain ⟨h1, h⟩ := fnz_eq h
 obtain ⟨h2, h⟩ := fnz_eq h
 obtain ⟨h3, h⟩ := fnz_eq h
 obtain ⟨h4, h⟩ := fnz_eq h
 obtain ⟨h5, h⟩ := fnz_eq h
 cases x; cases y
 have h1 := cmpZ_eq h1; have h2 := cmpZ_eq h2; have h3 := cmpZ_eq h3; have h4 := cmpZ_eq h4; have h5 := cmpZ_eq h5
 dsimp only at h1 h2 h3 h4 h5
 rw [h1, h2, h3, h4, h5]
theorem cmpIds_eq (x y : List XId) (h : cmpIds x y = 0) : x = y := by
 obtain ⟨_, h⟩ := fnz_eq h
 obtain ⟨h2, _⟩ := fnz_eq h
 exact cmpL_eq cmpId_eq h2
theorem cmpG_eq {x y : XG} (h : cmpG x y = 0) : x = y := by
 obtain ⟨_, h⟩ := fnz_eq h
 obtain ⟨_, h⟩ := fnz_eq h
 obtain ⟨h3, h⟩ := fnz_eq h
 obtain ⟨_, h⟩ := fnz_eq h
 obtain ⟨h5, h⟩ := fnz_eq h
 obtain ⟨_, h⟩ := fnz_eq h
 obtain ⟨h7, h⟩ := fnz_eq h
 obtain ⟨_, h⟩ := fnz_eq h
 obtain ⟨h9, _⟩ := fnz_eq h
 cases x; cases y
 have h3 := cmpL_eq (fun _ _ h => cmpL_eq cmpEv_eq h) h3; have h5 := cmpL_eq cmpIds_eq h5; have h7 := cmpL_eq cmpIds_eq h7; have h9 := cmpL_eq (fun _ _ h => cmpZ_eq h) h9
 dsimp only at h3 h5 h7 h9
 rw [h3, h5, h7, h9]
end Go.Ev

/- Plain law: graphs grow event by event; numbers and Ids are each other's. -/
namespace Go.Ev
variable [Env]
theorem sumLen_cons {α : Type} {l : List α} {ls : List (List α)} : sumLen (l :: ls) = l.length + sumLen ls := by unfold sumLen; simp
theorem goT_spec : ∀ {ls : List (List XEv)} {t n : Nat}, n < sumLen ls → ∃ (s k : Nat) (l : List XEv), goT ls t n = some ⟨.ofNat (t + s + 1), .ofNat k⟩ ∧ ls[s]? = some l ∧ k < l.length ∧ sumLen (ls.take s) + k = n
 | [], _, _, h => absurd h (Nat.not_lt_zero _)
 | l :: ls, t, n, h => by
  show ∃ (s k : Nat) (l' : List XEv), (if n < l.length then some ⟨.ofNat (t + 1), .ofNat n⟩ else goT ls (t + 1) (n - l.length)) = _ ∧ _
  by_cases hn : n < l.length
  ·exact ⟨0, n, l, by rw [if_pos hn], rfl, hn, by simp [sumLen]⟩
  ·rw [sumLen_cons] at h
   obtain ⟨s, k, l', h1, h2, h3, h4⟩ := goT_spec (ls := ls) (t := t + 1) (n := n - l.length) (by omega)
   refine ⟨s + 1, k, l', by rw [if_neg hn, h1, show t + 1 + s + 1 = t + (s + 1) + 1 by omega], by simpa using h2, h3, ?_⟩
   rw [List.take_succ_cons, sumLen_cons]; omega
/-- The Id of a number, and its number. -/
theorem at_num {g : XG} {i : Nat} (h : i < countG g) : ∃ id, atG g (.ofNat i) = some id ∧ numG g id = .ofNat i ∧ (evAt g id).isSome = true := by
 unfold countG at h
 cases hc : eqI (checkI g) 0 with
 | false => rw [hc] at h; exact absurd h (Nat.not_lt_zero _)
 | true =>
  rw [hc] at h
  have h : i < g.init.length + sumLen g.threads := h
  have e0 : atG g (.ofNat i) = atN g i := by
   unfold atG
   rw [hc, show ltI (.ofNat i) 0 = false by rw [show (0 : Int) = .ofNat 0 from rfl, ltI_nat]; simp]
   rfl
  rw [e0]
  unfold atN
  by_cases hi : i < g.init.length
  ·have hs : (evAt g ⟨0, .ofNat i⟩).isSome = true := by
    show ((g.init[i]?).map _).isSome = true
    rw [List.getElem?_eq_getElem hi]; rfl
   refine ⟨⟨0, .ofNat i⟩, by rw [if_pos hi], ?_, hs⟩
   unfold numG
   rw [hc, hs]; rfl
  ·obtain ⟨s, k, l, h1, h2, h3, h4⟩ := goT_spec (ls := g.threads) (t := 0) (n := i - g.init.length) (by omega)
   rw [Nat.zero_add] at h1
   have hs : (evAt g ⟨.ofNat (s + 1), .ofNat k⟩).isSome = true := by
    rw [evAt_row, h2]
    show (l[k]?).isSome = true
    rw [List.getElem?_eq_getElem h3]; rfl
   refine ⟨⟨.ofNat (s + 1), .ofNat k⟩, by rw [if_neg hi, h1], ?_, hs⟩
   unfold numG
   rw [hc, hs]
   show Int.ofNat (g.init.length + k + sumLen (g.threads.take s)) = .ofNat i
   congr 1
   omega
theorem wrRow_mem {t : Nat} : ∀ {l : List XEv} {n : Nat}, ∀ p ∈ wrRow t l n, ∃ k, p.1 = [.ofNat (t + 1), .ofNat (n + k)] ∧ k < l.length
 | [], _, p, h => by cases h
 | e :: l, n, p, h => by
  have h' : p ∈ (bif writesB e then ([.ofNat (t + 1), .ofNat n], e.loc) :: wrRow t l (n + 1) else wrRow t l (n + 1)) := h
  have key : p ∈ wrRow t l (n + 1) → ∃ k, p.1 = [.ofNat (t + 1), .ofNat (n + k)] ∧ k < (e :: l).length := fun h => by
   obtain ⟨k, h1, h2⟩ := wrRow_mem (l := l) p h
   exact ⟨k + 1, by rw [h1, show n + 1 + k = n + (k + 1) by omega], by rw [List.length_cons]; omega⟩
  cases hw : writesB e with
  | false => rw [hw] at h'; exact key h'
  | true =>
   rw [hw] at h'
   rcases List.mem_cons.1 h' with rfl | h'
   ·exact ⟨0, rfl, by rw [List.length_cons]; omega⟩
   ·exact key h'
theorem wrAll_mem : ∀ {ls : List (List XEv)} {t : Nat}, ∀ p ∈ wrAll ls t, ∃ (s k : Nat) (l : List XEv), p.1 = [.ofNat (t + s + 1), .ofNat k] ∧ ls[s]? = some l ∧ k < l.length
 | [], _, p, h => by cases h
 | l :: ls, t, p, h => by
  have h' : p ∈ wrRow t l 0 ++ wrAll ls (t + 1) := h
  rcases List.mem_append.1 h' with h' | h'
  ·obtain ⟨k, h1, h2⟩ := wrRow_mem p h'
   exact ⟨0, k, l, by rw [h1, Nat.zero_add], rfl, h2⟩
  ·obtain ⟨s, k, l', h1, h2, h3⟩ := wrAll_mem (ls := ls) p h'
   exact ⟨s + 1, k, l', by rw [h1, show t + 1 + s + 1 = t + (s + 1) + 1 by omega], by simpa using h2, h3⟩
theorem ordL_mem : ∀ {ls : List (List XId)} {loc ln : Nat} {r : List XId} {x : XId}, ls[ln]? = some r → x ∈ r → (x.ints, Int.ofNat (loc + ln)) ∈ ordL ls loc
 | [], _, _, _, _, h, _ => by simp at h
 | l :: ls, loc, 0, r, x, h, hx => by
  have : l = r := by simpa using h
  subst this
  exact List.mem_append_left _ (List.mem_map.2 ⟨x, hx, rfl⟩)
 | l :: ls, loc, ln + 1, r, x, h, hx => by
  have h' : ls[ln]? = some r := by simpa using h
  have := ordL_mem (loc := loc + 1) h' hx
  rw [show loc + 1 + ln = loc + (ln + 1) by omega] at this
  exact List.mem_append_right _ this
/-- A new Id is in no row of the order. -/
theorem new_not {g : XG} (h : Right g) {tm ln : Nat} {row : List XEv} {r : List XId} (hr : g.threads[tm]? = some row) (ho : g.order[ln]? = some r) : (⟨.ofNat (tm + 1), .ofNat row.length⟩ : XId) ∉ r := fun hx => by
 have h1 := h.perm.mem_iff.2 (ordL_mem (loc := 0) ho hx)
 obtain ⟨s, k, l, h2, h3, h4⟩ := wrAll_mem _ h1
 rw [show 0 + s + 1 = s + 1 by omega] at h2
 have h2 : [Int.ofNat (tm + 1), Int.ofNat row.length] = [.ofNat (s + 1), .ofNat k] := h2
 simp only [List.cons.injEq, and_true] at h2
 have e1 : tm + 1 = s + 1 := Int.ofNat.inj h2.1
 have e2 : row.length = k := Int.ofNat.inj h2.2
 obtain rfl : tm = s := by omega
 rw [hr] at h3
 cases h3
 omega
theorem sumLen_set {α : Type} : ∀ {ls : List (List α)} {tm : Nat} {row : List α} {e : α}, ls[tm]? = some row → sumLen (ls.set tm (row ++ [e])) = sumLen ls + 1
 | [], _, _, _, h => by simp at h
 | l :: ls, 0, row, e, h => by
  have : l = row := by simpa using h
  subst this
  show sumLen ((l ++ [e]) :: ls) = _
  rw [sumLen_cons, sumLen_cons, List.length_append, List.length_singleton]; omega
 | l :: ls, tm + 1, row, e, h => by
  have h' : ls[tm]? = some row := by simpa using h
  show sumLen (l :: ls.set tm (row ++ [e])) = _
  rw [sumLen_cons, sumLen_cons, sumLen_set h']; omega
noncomputable def neId (id : XId) (y : XId) : Bool := !(sameX y.ints id.ints)
theorem neId_not {id y : XId} (h : y ≠ id) : neId id y = true := by
 unfold neId
 rw [XId.same, sameX_no.2 h]; rfl
theorem idxF_at {α : Type} {p : α → Bool} {x : α} (hx : p x = true) : ∀ {a b : List α} {i : Nat}, (∀ y ∈ a, p y = false) → idxF p (a ++ x :: b) i = .ofNat (i + a.length)
 | [], b, i, _ => by
  show (bif p x then Int.ofNat i else _) = _
  rw [hx]; rfl
 | y :: a, b, i, h => by
  show (bif p y then Int.ofNat i else idxF p (a ++ x :: b) (i + 1)) = _
  rw [h y (List.mem_cons_self ..)]
  show idxF p (a ++ x :: b) (i + 1) = _
  rw [idxF_at hx fun z hz => h z (List.mem_cons_of_mem _ hz), List.length_cons, show i + 1 + a.length = i + (a.length + 1) by omega]
theorem filter_all {id : XId} {l : List XId} (h : id ∉ l) : l.filter (neId id) = l := List.filter_eq_self.2 fun y hy => neId_not fun e => h (e ▸ hy)
theorem filter_mid {id : XId} {a b : List XId} (ha : id ∉ a) (hb : id ∉ b) : (a ++ id :: b).filter (neId id) = a ++ b := by
 have h : neId id id = false := by unfold neId; rw [XId.same, sameX_iff.2 rfl]; rfl
 rw [List.filter_append, List.filter_cons, h, filter_all ha, filter_all hb]; rfl
/-- What an added event comes to. -/
theorem add_facts {g h : XG} {th pl : Int} {e : XEv} {fr : XId} (ha : addG g th e fr pl = (some h, 0)) : ∃ (tm : Nat) (row : List XEv), th = .ofNat (tm + 1) ∧ g.threads[tm]? = some row ∧ checkI g = 0 ∧ checkI h = 0 ∧ evAt h ⟨.ofNat (tm + 1), .ofNat row.length⟩ = some e ∧ countG h = countG g + 1 ∧
  (ltI 0 pl = true → writesB e = true ∧ idxF (fun y => sameX (⟨.ofNat (tm + 1), .ofNat row.length⟩ : XId).ints y.ints) (writesG h e.loc) 0 = pl) ∧ (∀ id w, evAt g id = some w → evAt h id = some w) ∧
  ∀ loc : Nat, loc < g.init.length → (writesG h (.ofNat loc)).filter (neId ⟨.ofNat (tm + 1), .ofNat row.length⟩) = writesG g (.ofNat loc) := by
 obtain ⟨hg, tm, row, frow, rfl, k1, q1, l1, p1, rfl, ch⟩ := addG_inv ha
 have rg := right_iff.1 hg
 have e1 : eqI (checkI g) 0 = true := by rw [hg]; rfl
 have e2 : eqI (checkI (grownG g tm e fr pl row frow)) 0 = true := by rw [ch]; rfl
 have hno : ∀ (ln : Nat) (r : List XId), g.order[ln]? = some r → (⟨.ofNat (tm + 1), .ofNat row.length⟩ : XId) ∉ (⟨0, .ofNat ln⟩ : XId) :: r := fun ln r hr hm => by
  rcases List.mem_cons.1 hm with hm | hm
  ·have := congrArg XId.thread hm
   exact absurd (show Int.ofNat (tm + 1) = .ofNat 0 from this) (fun h => by cases h)
  ·exact new_not rg k1 hr hm
 -- the writes of the location that is written
 have hat : writesB e = true → ∃ (ln pm : Nat) (r : List XId), e.loc = .ofNat ln ∧ pl = .ofNat (pm + 1) ∧ g.order[ln]? = some r ∧ pm ≤ r.length ∧ writesG (grownG g tm e fr pl row frow) (.ofNat ln) = (⟨0, .ofNat ln⟩ :: r.take pm) ++ ⟨.ofNat (tm + 1), .ofNat row.length⟩ :: r.drop pm := fun hw => by
  obtain ⟨ln, r, h1, h2, h3⟩ := badPlace_loc p1 hw
  unfold badPlace at p1
  rw [hw] at p1
  have p1 : (bif ltI pl 1 then true else ltI (.ofNat (writesG g e.loc).length) pl) = false := p1
  cases h4 : ltI pl 1 with
  | true => rw [h4] at p1; cases p1
  | false =>
   rw [h4] at p1
   obtain ⟨pm, rfl⟩ := pos_of h4
   have h5 : ltI (.ofNat (writesG g e.loc).length) (.ofNat (pm + 1)) = false := p1
   have h6 := lt_no h5
   refine ⟨ln, pm, r, h1, rfl, h2, by omega, ?_⟩
   have h7 : (grownG g tm e fr (.ofNat (pm + 1)) row frow).order[ln]? = some (r.take pm ++ ⟨.ofNat (tm + 1), .ofNat row.length⟩ :: r.drop pm) := by
    rw [grown_w hw h1 h2]
    show (g.order.set ln _)[ln]? = _
    rw [List.getElem?_set_self (List.getElem?_eq_some_iff.1 h2).1]
   rw [writesG_at e2 h7]; rfl
 refine ⟨tm, row, rfl, k1, hg, ch, evAt_new k1 rfl, ?_, fun hp => ?_, fun id w hw => evAt_old k1 rfl rfl hw, fun loc hloc => ?_⟩
 ·unfold countG
  rw [e1, e2]
  show g.init.length + sumLen (g.threads.set tm (row ++ [e])) = g.init.length + sumLen g.threads + 1
  rw [sumLen_set k1]; omega
 ·have hw : writesB e = true := by
   cases hw : writesB e with
   | true => rfl
   | false =>
    unfold badPlace at p1
    rw [hw] at p1
    have p1 : (!eqI pl 0) = false := p1
    have := eq0 (not_f p1)
    subst this
    cases hp
  refine ⟨hw, ?_⟩
  obtain ⟨ln, pm, r, h1, rfl, h3, h4, h5⟩ := hat hw
  rw [h1, h5, idxF_at (p := fun y : XId => sameX (⟨.ofNat (tm + 1), .ofNat row.length⟩ : XId).ints y.ints) (sameX_iff.2 rfl) fun y hy => sameX_no.2 fun he => ?_]
  ·rw [List.length_cons, List.length_take, Nat.min_eq_left h4, Nat.zero_add]
  ·have hy' : y = (⟨.ofNat (tm + 1), .ofNat row.length⟩ : XId) := by
    have : sameX y.ints (⟨.ofNat (tm + 1), .ofNat row.length⟩ : XId).ints = true := sameX_iff.2 he.symm
    rw [XId.same] at this
    exact sameX_iff.1 this
   subst hy'
   refine hno ln r h3 ?_
   rcases List.mem_cons.1 hy with hy | hy
   ·exact List.mem_cons.2 (.inl hy)
   ·exact List.mem_cons_of_mem _ (List.mem_of_mem_take hy)
 ·obtain ⟨r, hr⟩ := at_of (show loc < g.order.length by rw [rg.order]; exact hloc)
  rw [writesG_at e1 hr]
  by_cases hw : writesB e = true ∧ e.loc.toNat = loc
  ·obtain ⟨ln, pm, r', h1, rfl, h3, h4, h5⟩ := hat hw.1
   have hl : ln = loc := by have := hw.2; rw [h1] at this; exact this
   subst hl
   rw [hr] at h3
   cases h3
   have hn := hno ln r hr
   rw [h5, filter_mid (fun hm => hn ?_) (fun hm => hn (List.mem_cons_of_mem _ (List.mem_of_mem_drop hm)))]
   ·show ⟨0, .ofNat ln⟩ :: (r.take pm ++ r.drop pm) = _
    rw [List.take_append_drop]
   ·rcases List.mem_cons.1 hm with hm | hm
    ·exact List.mem_cons.2 (.inl hm)
    ·exact List.mem_cons_of_mem _ (List.mem_of_mem_take hm)
  ·have h7 : (grownG g tm e fr pl row frow).order[loc]? = some r := by
    show (ordW g.order e ⟨.ofNat (tm + 1), .ofNat row.length⟩ pl)[loc]? = _
    rw [ordW_at fun h1 h2 => hw ⟨h1, h2⟩, hr]
   rw [writesG_at e2 h7, filter_all (hno loc r hr)]
end Go.Ev

