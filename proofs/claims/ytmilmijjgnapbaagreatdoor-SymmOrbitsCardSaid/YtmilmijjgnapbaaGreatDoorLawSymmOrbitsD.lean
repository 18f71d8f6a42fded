/- Part of the proof: an evaluator of the model's code, rules for walks on it, walks. Without conditions. -/
import Derived.Test.YtmilmijjgnapbaaGreatDoorEe
import Derived.Test.YtmilmijjgnapbaaGreatDoorEc
import Derived.Test.YtmilmijjgnapbaaGreatDoorRows
import Derived.Test.YtmilmijjgnapbaaGreatDoorCards
import Derived.Test.YtmilmijjgnapbaaGreatDoorTie
import Derived.SevenTiedAt
import Derived.LaidMore
import Derived.ProofKit
import Derived.OpenShut
import Derived.Stop.Joined
set_option linter.unusedSectionVars false
set_option linter.unusedVariables false
set_option linter.unusedSimpArgs false
namespace Go.Proofs.YtmilmijjgnapbaaGreatDoor.lawSymmOrbits
open Go.ChangeShapes Go.WideShapes Go.ChangeAt Go.RowKit
set_option maxHeartbeats 8000000
set_option maxRecDepth 100000
theorem own:ownKnob Tryz.prog.godebug=none:=by kernel_rfl
theorem walked {H_:Type} {enc:TypeId×Value->H_} {w:World} {Fu:Nat} {v0 v1:Value} {x0 x1:DataW H_×List MemPlace} (s0:Go.Ev.uz w v0) (s1:Go.Ev.uz w v1)
  (t0:DataW.trod enc Tryz.prog w 0 (fun _=>true) true (Fu+6) 22 [v0]=some x0) (t1:DataW.trod enc Tryz.prog w 0 (fun _=>true) true (Fu+6) 29 [v1]=some x1):
  Calls Tryz.prog 4 #[v0,v1] w fun e w'=>e= .returned (.bool true)/\Go.Ev.gi w w':=by
 letI:Go.Ev.Env:=⟨fun _=>.bool false,w.heap.size,w.heap⟩
 have ho:Go.Ev.Fv w:=⟨Nat.le_refl _,fun _ _=>rfl⟩;obtain⟨O,V,k,l,all,a0,a1,hi,hro,hv0,hv1,q0,q1,hI⟩:=Go.Ev.H6 (enc:=enc) (F:=Fu) ho s0 s1 t0 t1;obtain⟨y,r,h1,h2,_⟩:=hv0.cons_inv;cases h1;obtain⟨y,r,h1,h3,_⟩:=hv1.cons_inv;cases h1;refine(Go.Ev.tb (P:=Tryz.prog) (G:=Go.Ev.GC) (args:=[a0,a1]) Go.Ev.za Go.Ev.PF hi (Go.Ev.Pw _) hro (Go.Ev.cA.cons h2 (Go.Ev.cA.cons h3 Go.Ev.cA.nil)) (Go.Ev.z1 Go.Ev.OC rfl (fun _ _=>rfl) rfl (fun _ _ _=>rfl) q0 q1 hI (Go.Ev.H.of V))).mono fun e w' h=>?_
 obtain⟨v,x,V',O',rfl,hk,hv,rfl⟩:=h;simp only[Go.Ev.VR] at hv;subst hv;exact⟨rfl,hk⟩
theorem tI {w:World} {t e:TypeId} {base:Nat} {v:Value} (hu:Tryz.prog.underlying t=some (.slice e)) (hok:Value.okWide Tryz.prog w .any base t v):Go.Ev.uz w v/\v.cells.toList= [v]:=by
 letI:Go.Ev.Env:=⟨fun _=>.bool false,0, #[]⟩
 unfold Value.okWide at hok;rw[hu] at hok;have h:=Go.Ev.Ii hu hok;refine⟨h,?_⟩;rcases h with rfl | ⟨a,len,cap,c,e,fr,rfl,_⟩<;>rfl
theorem Hv (os:Os) (args:Array Value):laidMetH Tryz.prog Rows.symmOrbitsRow.laid ((World.doorLaid Tryz.prog 24 os).forCall (fun _ _=>0) ⟨#[],args,[]⟩).memory:=
 laidMetH_of_parts3 (fuel:=8) (laidMet_of_run' 8 (by kernel_rfl) (by kernel_rfl)) (by kernel_rfl) (by kernel_rfl)
end Go.Proofs.YtmilmijjgnapbaaGreatDoor.lawSymmOrbits
