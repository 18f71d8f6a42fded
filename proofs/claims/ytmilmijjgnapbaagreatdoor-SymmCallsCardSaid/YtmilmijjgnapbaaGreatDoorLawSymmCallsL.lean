/- Part of the proof: an evaluator of the model's code, rules for walks on it, walks. Without conditions. -/
import Derived.Test.YtmilmijjgnapbaaGreatDoorLawSymmCallsD
set_option linter.unusedSectionVars false
set_option linter.unusedVariables false
set_option linter.unusedSimpArgs false
namespace Go.Proofs.YtmilmijjgnapbaaGreatDoor.lawSymmCalls
open Go.ChangeShapes Go.WideShapes Go.ChangeAt Go.RowKit
set_option maxHeartbeats 8000000
set_option maxRecDepth 100000
theorem lifted (os:Os) (started:os.Started) (H_:Type) (enc:TypeId×Value->H_):
  ReturnsInHanded {} Tryz.checked os 3 .any (fun w args=>(Rows.symmCallsSpec.pre enc Tryz.prog Tryz.f3 [] false w args/\laidMetH Tryz.prog Rows.symmCallsRow.laid w)/\sizedMet enc Tryz.prog Tryz.f3 (OpenSpec.ofChange Rows.symmCallsSpec) false w args)
   (Rows.symmCallsSpec.post enc Tryz.prog Tryz.f3 false true false false):=by
 refine returnsInHanded_of_change_and (C:=Tryz.checked) (X:=fun w _=>laidMetH Tryz.prog Rows.symmCallsRow.laid w) (fun _ _ _ hh h=>h.of_heap hh) own started (by kernel_rfl) Tryz.func3
  (ChangeSpec.witness_shaped (enc:=enc) (C:=Tryz.checked) (os:=os) (X:=fun w _=>laidMetH Tryz.prog Rows.symmCallsRow.laid w) false (World.doorLaid Tryz.prog 24 os) #[.slice none 0 0,.agg #[.slice none 0 0,.slice none 0 0,.slice none 0 0,.slice none 0 0],.slice none 0 0,.slice none 0 0] 8 rfl (World.shaped_of_RefB (by kernel_rfl) (by kernel_rfl)) (by kernel_rfl) (by kernel_rfl) (by kernel_rfl) (Jb os _)) ?_
 intro W base args ds gs before hval0 hW _ _ _ _
 letI:Go.Ev.Env:=⟨fun _=>.bool false,0, #[]⟩
 have hval:∀(j:Nat) t v,Tryz.f3.params[j]? =some t->args[j]? =some v->Value.okWide Tryz.prog W .any base t v:=hval0;have hW':=hW;obtain⟨p,q,hA0,hV,rfl,hfz,hnd⟩:=hW;have hA:DataW.TrodAll enc Tryz.prog W 0 (fun _=>true) true Tryz.f3.params.toList args.toList ds p:=hA0;have hA1:=hA;rw[Tryz.params3] at hA hval;obtain⟨v0,r0,d0,e0,k0,rfl,⟨n0,p0,t0⟩,q0,hA⟩:=Go.Ev.trodAll_cons hA;obtain⟨v1,r1,d1,e1,rfl,rfl,⟨n1,p1,t1⟩,q1,hA⟩:=Go.Ev.trodAll_cons hA;obtain⟨v2,r2,d2,e2,rfl,rfl,⟨n2,p2,t2⟩,q2,hA⟩:=Go.Ev.trodAll_cons hA;obtain⟨v3,r3,d3,e3,rfl,rfl,⟨n3,p3,t3⟩,q3,hA⟩:=Go.Ev.trodAll_cons hA;obtain⟨rfl,rfl⟩:=Go.Ev.trodAll_nil hA;obtain⟨rfl,rfl⟩:=trodVars_none hV;have hargs:args= #[v0,v1,v2,v3]:=by rw[<-Array.toList_inj];exact k0
 subst hargs;obtain⟨s0,hc0⟩:=pj Tryz.underlying22 (hval 0 22 v0 rfl rfl);obtain⟨cg,rfl,hs,hn⟩:=Go.Ev.BY (hval 1 27 v1 rfl rfl);obtain⟨s2,hc2⟩:=pj Tryz.underlying28 (hval 2 28 v2 rfl rfl);obtain⟨s3,hc3⟩:=pj Tryz.underlying29 (hval 3 29 v3 rfl rfl);rw[hc0] at t0;rw[hc2] at t2;rw[hc3] at t3;have t0:=DataW.trod_le (m:=n0+n1+n2+n3+6) (by omega) t0;have t1:=DataW.trod_le (m:=n0+n1+n2+n3+6) (by omega) t1;have t2:=DataW.trod_le (m:=n0+n1+n2+n3+6) (by omega) t2;have t3:=DataW.trod_le (m:=n0+n1+n2+n3+6) (by omega) t3;clear hA0 hval0;simp only[List.append_nil] at hW';refine(walked (enc:=enc) (Fu:=n0+n1+n2+n3) s0 ⟨hs,hn⟩ s2 s3 t0 t1 t2 t3).mono fun e W' ⟨he,hk⟩=>?_
 subst he
 exact⟨_,rfl,Go.Ev.EX (pa:=p) (pv:=[]) hW' (fun _ _ _=>trodAll_mk1 (shut_bool Tryz.underlying4 _)) (fun sp hsp=>Go.Ev.CP (by kernel_rfl) (by kernel_rfl) (by kernel_rfl) hk (by kernel_rfl) hA1 hsp) (fun _ _=>rfl) (List.append_nil p).symm
  hk (ok_one (by kernel_rfl) rfl (okWide_bool_mk Tryz.underlying4 _))⟩
end Go.Proofs.YtmilmijjgnapbaaGreatDoor.lawSymmCalls
