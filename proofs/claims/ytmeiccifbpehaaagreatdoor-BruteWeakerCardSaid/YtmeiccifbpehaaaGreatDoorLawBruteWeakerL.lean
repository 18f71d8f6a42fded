/- Part of the proof: an evaluator of the model's code, rules for walks on it, walks. Without conditions. -/
import Derived.Test.YtmeiccifbpehaaaGreatDoorLawBruteWeakerD
set_option linter.unusedSectionVars false
set_option linter.unusedVariables false
set_option linter.unusedSimpArgs false
namespace Go.Proofs.YtmeiccifbpehaaaGreatDoor.lawBruteWeaker
open Go.ChangeShapes Go.WideShapes Go.ChangeAt Go.RowKit
set_option maxHeartbeats 8000000
set_option maxRecDepth 100000
theorem lifted (os:Os) (started:os.Started) (H_:Type) (enc:TypeId×Value->H_):
  ReturnsInHanded {} Tryz.checked os 3 .any (fun w args=>(Rows.bruteWeakerSpec.pre enc Tryz.prog Tryz.f3 [] false w args/\laidMetH Tryz.prog Rows.bruteWeakerRow.laid w)/\sizedMet enc Tryz.prog Tryz.f3 (OpenSpec.ofChange Rows.bruteWeakerSpec) false w args)
   (Rows.bruteWeakerSpec.post enc Tryz.prog Tryz.f3 false true false false):=by
 refine returnsInHanded_of_change_and (C:=Tryz.checked) (X:=fun w _=>laidMetH Tryz.prog Rows.bruteWeakerRow.laid w) (fun _ _ _ hh h=>h.of_heap hh) own started (by kernel_rfl) Tryz.func3
  (ChangeSpec.witness_shaped (enc:=enc) (C:=Tryz.checked) (os:=os) (X:=fun w _=>laidMetH Tryz.prog Rows.bruteWeakerRow.laid w) false (World.doorLaid Tryz.prog 80 os) #[.slice none 0 0,.slice none 0 0] 8 rfl (World.shaped_of_RefB (by kernel_rfl) (by kernel_rfl)) (by kernel_rfl) (by kernel_rfl) (by kernel_rfl) (Nr os _)) ?_
 intro W base args ds gs before hval0 hW _ _ hL _
 letI:Go.Ev.Env:=⟨fun _=>.bool false,0, #[]⟩
 have hval:∀(j:Nat) t v,Tryz.f3.params[j]? =some t->args[j]? =some v->Value.okWide Tryz.prog W .any base t v:=hval0;have hW':=hW;obtain⟨p,q,hA0,hV,rfl,hfz,hnd⟩:=hW;have hA:DataW.TrodAll enc Tryz.prog W 0 (fun _=>true) true Tryz.f3.params.toList args.toList ds p:=hA0;have hA1:=hA;rw[Tryz.params3] at hA hval;obtain⟨v1,r1,d1,e1,k0,rfl,⟨n1,p1,t1⟩,q1,hA⟩:=Go.Ev.trodAll_cons hA;obtain⟨v2,r2,d2,e2,rfl,rfl,⟨n2,p2,t2⟩,q2,hA⟩:=Go.Ev.trodAll_cons hA;obtain⟨rfl,rfl⟩:=Go.Ev.trodAll_nil hA;obtain⟨rfl,rfl⟩:=trodVars_none hV;have hargs:args= #[v1,v2]:=by rw[<-Array.toList_inj];exact k0
 subst hargs;rw[xb Tryz.underlying22 (hval 0 22 v1 rfl rfl)] at t1;rw[xb Tryz.underlying23 (hval 1 23 v2 rfl rfl)] at t2;have t1:=DataW.trod_le (m:=n1+n2+6) (by omega) t1;have t2:=DataW.trod_le (m:=n1+n2+6) (by omega) t2;clear hA0 hval0;simp only[List.append_nil] at hW';refine(walked (enc:=enc) hL (Fu:=n1+n2) t1 t2).mono fun e W' ⟨he,hk⟩=>?_
 subst he
 exact⟨_,rfl,Go.Ev.HY (pa:=p) (pv:=[]) hW' (fun _ _ _=>trodAll_mk1 (shut_bool Tryz.underlying4 _)) (fun sp hsp=>Go.Ev.FJ (by kernel_rfl) (by kernel_rfl) (by kernel_rfl) hk (by kernel_rfl) hA1 hsp) (fun _ _=>rfl) (List.append_nil p).symm
  hk (ok_one (by kernel_rfl) rfl (okWide_bool_mk Tryz.underlying4 _))⟩
end Go.Proofs.YtmeiccifbpehaaaGreatDoor.lawBruteWeaker
