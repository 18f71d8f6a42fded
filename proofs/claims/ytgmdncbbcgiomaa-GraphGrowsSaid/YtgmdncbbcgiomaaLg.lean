/- Walks and runs: what functions of the program come to, on the evaluator. Without conditions. -/
import Derived.Test.YtgmdncbbcgiomaaTd
import Derived.Test.YtgmdncbbcgiomaaEd
import Derived.Test.YtgmdncbbcgiomaaRows
import Derived.ProofKit
import Derived.OpenShut
import Derived.Stop.Joined
set_option linter.unusedSectionVars false
set_option linter.unusedVariables false
set_option linter.unusedSimpArgs false
namespace Go.Proofs.Ytgmdncbbcgiomaa.lawGraphGrows
open Go.ChangeShapes Go.WideShapes Go.ChangeAt Go.RowKit
set_option maxHeartbeats 8000000
set_option maxRecDepth 100000
theorem own : ownKnob Try.prog.godebug = none := by kernel_rfl
/-- The law's call, whatever the arguments that read. -/
theorem walked {H : Type} {enc : TypeId × Value → H} {w : World} {F : Nat} {cg co cp ce cr : Array Value} {th pl : Int} {e : Go.Ev.XEv} {fr : Go.Ev.XId} (hs : ∀ c ∈ [cg, co, cp], c.size = 4 ∧ ∀ v ∈ c.toList, Go.Ev.NilOr w v)
  (hg : ∀ c ∈ [cg, co, cp], ∃ x, DataW.trod enc Try.prog w 0 (fun _ => true) true (F + 5) 43 c.toList = some x)
  (he : ce.toList = [.int .i64 e.kind, .int .i64 e.loc, .int .i64 e.order, .int .i64 e.read, .int .i64 e.write]) (hr : cr.toList = [.int .i64 fr.thread, .int .i64 fr.index]) :
  Calls Try.prog 6 #[.agg cg, .agg co, .agg cp, .int .i64 th, .agg ce, .agg cr, .int .i64 pl] w fun e w' => e = .returned (.bool true) ∧ Go.Ev.Keeps w w' := by
 letI : Go.Ev.Env := ⟨fun _ => .bool false, w.heap.size, w.heap⟩
 have ho : Go.Ev.OldW w := ⟨Nat.le_refl _, fun _ _ => rfl⟩
 obtain ⟨ρ, σ, hi, hro, hall⟩ := Go.Ev.lay_graphs (enc := enc) (F := F) ho hs hg
 obtain ⟨g, a, b, c, d, hv, hG⟩ := hall cg (by simp)
 obtain ⟨g2, a2, b2, c2, d2, hv2, hG2⟩ := hall co (by simp)
 obtain ⟨g3, a3, b3, c3, d3, hv3, hG3⟩ := hall cp (by simp)
 refine (Go.Ev.calls_of_ev (P := Try.prog) (G := Go.Ev.GC) (args := [.agg [a, b, c, d], .agg [a2, b2, c2, d2], .agg [a3, b3, c3, d3], .int .i64 th, .agg [.int .i64 e.kind, .int .i64 e.loc, .int .i64 e.order, .int .i64 e.read, .int .i64 e.write],
  .agg [.int .i64 fr.thread, .int .i64 fr.index], .int .i64 pl]) Go.Ev.drawnG Go.Ev.okGC hi (Go.Ev.grGC _) hro ?_ (Go.Ev.w_GraphGrows Go.Ev.plainGC rfl rfl rfl (fun _ => rfl) hG hG2 hG3 th pl e fr (Go.Ev.St.of σ))).mono fun e w' h => ?_
 ·refine Go.Ev.VRs.cons (by simp only [Go.Ev.VR]; exact ⟨cg, rfl, hv⟩) (Go.Ev.VRs.cons (by simp only [Go.Ev.VR]; exact ⟨co, rfl, hv2⟩) (Go.Ev.VRs.cons (by simp only [Go.Ev.VR]; exact ⟨cp, rfl, hv3⟩) (Go.Ev.VRs.cons (by simp only [Go.Ev.VR]) (Go.Ev.VRs.cons (Go.Ev.vr_ev he) (Go.Ev.VRs.cons (Go.Ev.vr_id hr) (Go.Ev.VRs.cons (by simp only [Go.Ev.VR]) Go.Ev.VRs.nil))))))
 ·obtain ⟨v, x, σ', ρ', rfl, hk, hv, rfl⟩ := h
  simp only [Go.Ev.VR] at hv
  subst hv
  exact ⟨rfl, hk⟩
theorem int_value {H : Type} {enc : TypeId × Value → H} {w : World} {n base : Nat} {v : Value} {x : DataW H × List MemPlace} (h : DataW.trod enc Try.prog w 0 (fun _ => true) true n 3 v.cells.toList = some x) (hok : Value.okWide Try.prog w .any base 3 v) : ∃ i, v = .int .i64 i := by
 letI : Go.Ev.Env := ⟨fun _ => .bool false, 0, #[]⟩
 obtain ⟨i, hi⟩ := Go.Ev.trod_int Try.underlying3 h
 unfold Value.okWide at hok
 rw [Try.underlying3] at hok
 unfold Cell.okWide at hok
 rw [Try.underlying3] at hok
 cases v with
 | int k m => exact ⟨i, by have : [Value.int k m] = [.int .i64 i] := hi; simpa using this⟩
 | agg c =>
  unfold Cell.ok at hok
  rw [Try.underlying3] at hok
  exact hok.elim
 | _ => simp [Value.cells] at hi
theorem agg_value {w : World} {t : TypeId} {fs : Array Field} {base : Nat} {v : Value} (hu : Try.prog.underlying t = some (.struct fs)) (hok : Value.okWide Try.prog w .any base t v) : ∃ c, v = .agg c := by
 unfold Value.okWide at hok
 rw [hu] at hok
 obtain ⟨c, rfl, _⟩ := hok
 exact ⟨c, rfl⟩
theorem lifted (os : Os) (started : os.Started) (H : Type) (enc : TypeId × Value → H) :
  ReturnsInHanded {} Try.checked os 6 .any (Rows.graphGrowsSpec.pre6 enc Try.prog Try.f6 Rows.graphGrowsRow.domain false) (Rows.graphGrowsSpec.post enc Try.prog Try.f6 false true false false) := by
 refine returnsInHanded_of_change (C := Try.checked) own started (by kernel_rfl) Try.func6
  (ChangeSpec.witness6 (enc := enc) (C := Try.checked) false ⟨#[], #[.agg #[.slice none 0 0, .slice none 0 0, .slice none 0 0, .slice none 0 0], .agg #[.slice none 0 0, .slice none 0 0, .slice none 0 0, .slice none 0 0], .agg #[.slice none 0 0, .slice none 0 0, .slice none 0 0, .slice none 0 0], .int .i64 0, .agg #[.int .i64 0, .int .i64 0, .int .i64 0, .int .i64 0, .int .i64 0], .agg #[.int .i64 0, .int .i64 0], .int .i64 0], []⟩ 8 (by kernel_rfl) (by kernel_rfl) (by kernel_rfl) (by kernel_rfl)) ?_
 intro W base args ds gs before hval0 hW hcnd _
 letI : Go.Ev.Env := ⟨fun _ => .bool false, 0, #[]⟩
 have hval : ∀ (j : Nat) t v, Try.f6.params[j]? = some t → args[j]? = some v → Value.okWide Try.prog W .any base t v := hval0
 have hW' := hW
 obtain ⟨p, q, hA0, hV, rfl, hfz, hnd⟩ := hW
 have hA : DataW.TrodAll enc Try.prog W 0 (fun _ => true) true Try.f6.params.toList args.toList ds p := hA0
 have hA1 := hA
 rw [Try.params6] at hA hval
 obtain ⟨v0, r0, d0, e0, k0, rfl, ⟨n0, p0, t0⟩, q0, hA⟩ := Go.Ev.trodAll_cons hA
 obtain ⟨v1, r1, d1, e1, rfl, rfl, ⟨n1, p1, t1⟩, q1, hA⟩ := Go.Ev.trodAll_cons hA
 obtain ⟨v2, r2, d2, e2, rfl, rfl, ⟨n2, p2, t2⟩, q2, hA⟩ := Go.Ev.trodAll_cons hA
 obtain ⟨v3, r3, d3, e3, rfl, rfl, ⟨n3, p3, t3⟩, q3, hA⟩ := Go.Ev.trodAll_cons hA
 obtain ⟨v4, r4, d4, e4, rfl, rfl, ⟨n4, p4, t4⟩, q4, hA⟩ := Go.Ev.trodAll_cons hA
 obtain ⟨v5, r5, d5, e5, rfl, rfl, ⟨n5, p5, t5⟩, q5, hA⟩ := Go.Ev.trodAll_cons hA
 obtain ⟨v6, r6, d6, e6, rfl, rfl, ⟨n6, p6, t6⟩, q6, hA⟩ := Go.Ev.trodAll_cons hA
 obtain ⟨rfl, rfl⟩ := Go.Ev.trodAll_nil hA
 obtain ⟨rfl, rfl⟩ := trodVars_none hV
 have hargs : args = #[v0, v1, v2, v3, v4, v5, v6] := by rw [← Array.toList_inj]; exact k0
 subst hargs
 obtain ⟨cg, rfl, hs, hn⟩ := Go.Ev.graph_value (hval 0 43 v0 rfl rfl)
 obtain ⟨co, rfl, hs2, hn2⟩ := Go.Ev.graph_value (hval 1 43 v1 rfl rfl)
 obtain ⟨cp, rfl, hs3, hn3⟩ := Go.Ev.graph_value (hval 2 43 v2 rfl rfl)
 obtain ⟨i3, rfl⟩ := int_value t3 (hval 3 3 v3 rfl rfl)
 obtain ⟨ce, rfl⟩ := agg_value Try.underlying45 (hval 4 45 v4 rfl rfl)
 obtain ⟨cr, rfl⟩ := agg_value Try.underlying47 (hval 5 47 v5 rfl rfl)
 obtain ⟨i6, rfl⟩ := int_value t6 (hval 6 3 v6 rfl rfl)
 obtain ⟨e, he⟩ := Go.Ev.trod_ev (cs := ce.toList) t4
 obtain ⟨fr, hr⟩ := Go.Ev.trod_id (cs := cr.toList) t5
 have hg := DataW.trod_le (m := n0 + n1 + n2 + 5) (by omega) t0
 have hg2 := DataW.trod_le (m := n0 + n1 + n2 + 5) (by omega) t1
 have hg3 := DataW.trod_le (m := n0 + n1 + n2 + 5) (by omega) t2
 clear hA0 hval0
 simp only [List.append_nil] at hW'
 refine (walked (enc := enc) (F := n0 + n1 + n2) (th := i3) (pl := i6) (cg := cg) (co := co) (cp := cp) (fun c hc => ?_) (fun c hc => ?_) he hr).mono fun e W' ⟨he, hk⟩ => ?_
 ·simp only [List.mem_cons, List.not_mem_nil, or_false] at hc
  rcases hc with rfl | rfl | rfl
  ·exact ⟨hs, hn⟩
  ·exact ⟨hs2, hn2⟩
  ·exact ⟨hs3, hn3⟩
 ·simp only [List.mem_cons, List.not_mem_nil, or_false] at hc
  rcases hc with rfl | rfl | rfl
  ·exact ⟨_, hg⟩
  ·exact ⟨_, hg2⟩
  ·exact ⟨_, hg3⟩
 ·subst he
  exact ⟨_, rfl, Go.Ev.post_keeps (pa := p) (pv := []) hW' (fun _ _ _ => trodAll_mk1 (shut_bool Try.underlying4 _)) (fun sp hsp => Go.Ev.reads_again (by kernel_rfl) (by kernel_rfl) (by kernel_rfl) hk (by kernel_rfl) hA1 hsp) (fun _ _ => rfl) (List.append_nil p).symm
   hk (ok_one (by kernel_rfl) rfl (okWide_bool_mk Try.underlying4 _))⟩

theorem and_true_of {a b : Bool} (ha : a = true) (hb : b = true) : (a && b) = true := by rw [ha, hb]; rfl
theorem closed : joinedFacts Try.pinned.checked.prog 6 Try.f6 Rows.graphGrowsSpec Rows.graphGrowsRow = true := by
 unfold joinedFacts
 repeat' (with_reducible refine and_true_of ?_ ?_)
 all_goals (as_aux_lemma => kernel_rfl)

theorem proved : Rows.GraphGrowsSaid :=
 OpenClaim.holds_of_wide 6 Try.f6 rfl rfl rfl rfl rfl rfl rfl ⟨rfl, rfl, rfl, rfl, rfl⟩ rfl rfl rfl rfl rfl (by kernel_rfl) Try.func6 closed
  (of_decide_eq_true (by kernel_rfl)) (by unfold Func.isWrapper; first | (rw [if_pos (by decide +kernel)]; kernel_rfl) | (rw [if_neg (by decide +kernel)]; exact ⟨rfl, rfl⟩))
  (fun os started H enc _ => lifted os started H enc)
end Go.Proofs.Ytgmdncbbcgiomaa.lawGraphGrows

