/- Part of the proof: an evaluator of the model's code, rules for walks on it, walks. Without conditions. -/
import Derived.Test.YtmilmijjgnapbaaGreatEf
import Derived.Test.YtmilmijjgnapbaaGreatEc
import Derived.Test.YtmilmijjgnapbaaGreatRows
import Derived.ProofKit
import Derived.OpenShut
import Derived.Stop.Joined
set_option linter.unusedSectionVars false
set_option linter.unusedVariables false
set_option linter.unusedSimpArgs false
namespace Go.Proofs.YtmilmijjgnapbaaGreat.lawSymmMoves
open Go.ChangeShapes Go.WideShapes Go.ChangeAt Go.RowKit
set_option maxHeartbeats 8000000
set_option maxRecDepth 100000
theorem own:ownKnob Tryz.prog.godebug=none:=by kernel_rfl
theorem walked {H_:Type} {enc:TypeId×Value->H_} {w:World} {F:Nat} {v0:Value} {cg:Array Value} {x0 x1:DataW H_×List MemPlace} (s0:Go.Ev.vg w v0) (s1:cg.size=4/\∀v∈cg.toList,Go.Ev.vg w v)
  (t0:DataW.trod enc Tryz.prog w 0 (fun _=>true) true (F+5) 22 [v0]=some x0) (t1:DataW.trod enc Tryz.prog w 0 (fun _=>true) true (F+5) 27 cg.toList=some x1):
  Calls Tryz.prog 3 #[v0,.agg cg] w fun e w'=>e= .returned (.bool true)/\Go.Ev.ke w w':=by
 letI:Go.Ev.Env:=⟨fun _=>.bool false,w.heap.size,w.heap⟩
 have ho:Go.Ev.Hi w:=⟨Nat.le_refl _,fun _ _=>rfl⟩;obtain⟨J,V,k,l,g,a0,a,b,c,d,hi,hro,hv0,hv1,q0,hf,q1⟩:=Go.Ev.KD (enc:=enc) (F:=F) ho s0 s1 t0 t1;obtain⟨y,r,h1,h2,_⟩:=hv0.cons_inv;cases h1;refine(Go.Ev.B4 (P:=Tryz.prog) (G:=Go.Ev.GC) (args:=[a0,.agg [a,b,c,d]]) Go.Ev.JR Go.Ev.Si hi (Go.Ev.Sb _) hro ?_ (Go.Ev.DI Go.Ev.NT rfl (fun _ _ _=>rfl) q0 hf q1 (Go.Ev.D.of V))).mono fun e w' h=>?_
 ·exact Go.Ev.dw.cons h2 (Go.Ev.dw.cons (by simp only[Go.Ev.VR];exact⟨cg,rfl,hv1⟩) Go.Ev.dw.nil)
 ·obtain⟨v,x,V',J',rfl,hk,hv,rfl⟩:=h;simp only[Go.Ev.VR] at hv;subst hv;exact⟨rfl,hk⟩
theorem Dr {w:World} {t e:TypeId} {base:Nat} {v:Value} (hu:Tryz.prog.underlying t=some (.slice e)) (hok:Value.okWide Tryz.prog w .any base t v):Go.Ev.vg w v/\v.cells.toList= [v]:=by
 letI:Go.Ev.Env:=⟨fun _=>.bool false,0, #[]⟩
 unfold Value.okWide at hok;rw[hu] at hok;have h:=Go.Ev.p5 hu hok;refine⟨h,?_⟩;rcases h with rfl | ⟨a,len,cap,c,e,fr,rfl,_⟩<;>rfl
theorem lifted (os:Os) (started:os.Started) (H_:Type) (enc:TypeId×Value->H_):
  ReturnsInHanded {} Tryz.checked os 3 .any (Rows.symmMovesSpec.pre6 enc Tryz.prog Tryz.f3 Rows.symmMovesRow.domain false) (Rows.symmMovesSpec.post enc Tryz.prog Tryz.f3 false true false false):=by
 refine returnsInHanded_of_change (C:=Tryz.checked) own started (by kernel_rfl) Tryz.func3
  (ChangeSpec.witness6 (enc:=enc) (C:=Tryz.checked) false ⟨#[], #[.slice none 0 0,.agg #[.slice none 0 0,.slice none 0 0,.slice none 0 0,.slice none 0 0]],[]⟩ 8 (by kernel_rfl) (by kernel_rfl) (by kernel_rfl) (by kernel_rfl)) ?_
 intro W base args ds gs before hval0 hW hcnd _
 letI:Go.Ev.Env:=⟨fun _=>.bool false,0, #[]⟩
 have hval:∀(j:Nat) t v,Tryz.f3.params[j]?=some t->args[j]?=some v->Value.okWide Tryz.prog W .any base t v:=hval0;have hW':=hW;obtain⟨p,q,hA0,hV,rfl,hfz,hnd⟩:=hW;have hA:DataW.TrodAll enc Tryz.prog W 0 (fun _=>true) true Tryz.f3.params.toList args.toList ds p:=hA0;have hA1:=hA;rw[Tryz.params3] at hA hval;obtain⟨v0,r0,d0,e0,k0,rfl,⟨n0,p0,t0⟩,q0,hA⟩:=Go.Ev.trodAll_cons hA;obtain⟨v1,r1,d1,e1,rfl,rfl,⟨n1,p1,t1⟩,q1,hA⟩:=Go.Ev.trodAll_cons hA;obtain⟨rfl,rfl⟩:=Go.Ev.trodAll_nil hA;obtain⟨rfl,rfl⟩:=trodVars_none hV;have hargs:args= #[v0,v1]:=by rw[<-Array.toList_inj];exact k0
 subst hargs;obtain⟨s0,hc0⟩:=Dr Tryz.underlying22 (hval 0 22 v0 rfl rfl);obtain⟨cg,rfl,hs,hn⟩:=Go.Ev.Cv (hval 1 27 v1 rfl rfl);rw[hc0] at t0;have t0:=DataW.trod_le (m:=n0+n1+5) (by omega) t0;have t1:=DataW.trod_le (m:=n0+n1+5) (by omega) t1;clear hA0 hval0;simp only[List.append_nil] at hW';refine(walked (enc:=enc) (F:=n0+n1) s0 ⟨hs,hn⟩ t0 t1).mono fun e W' ⟨he,hk⟩=>?_
 subst he
 exact⟨_,rfl,Go.Ev.Fk (pa:=p) (pv:=[]) hW' (fun _ _ _=>trodAll_mk1 (shut_bool Tryz.underlying4 _)) (fun sp hsp=>Go.Ev.De (by kernel_rfl) (by kernel_rfl) (by kernel_rfl) hk (by kernel_rfl) hA1 hsp) (fun _ _=>rfl) (List.append_nil p).symm
  hk (ok_one (by kernel_rfl) rfl (okWide_bool_mk Tryz.underlying4 _))⟩
theorem BO {a b:Bool} (ha:a=true) (hb:b=true):(a && b)=true:=by rw[ha,hb];rfl
theorem closed:joinedFacts Tryz.pinned.checked.prog 3 Tryz.f3 Rows.symmMovesSpec Rows.symmMovesRow=true:=by
 unfold joinedFacts
 repeat' (with_reducible refine BO ?_ ?_)
 all_goals (as_aux_lemma=>kernel_rfl)
theorem proved:Rows.SymmMovesSaid:=
 OpenClaim.holds_of_wide 3 Tryz.f3 rfl rfl rfl rfl rfl rfl rfl ⟨rfl,rfl,rfl,rfl,rfl⟩ rfl rfl rfl rfl rfl (by kernel_rfl) Tryz.func3 closed
  (of_decide_eq_true (by kernel_rfl)) (by unfold Func.isWrapper;first | (rw[if_pos (by decide+kernel)];kernel_rfl) | (rw[if_neg (by decide+kernel)];exact⟨rfl,rfl⟩))
  (fun os started H_ enc _=>lifted os started H_ enc)
end Go.Proofs.YtmilmijjgnapbaaGreat.lawSymmMoves
