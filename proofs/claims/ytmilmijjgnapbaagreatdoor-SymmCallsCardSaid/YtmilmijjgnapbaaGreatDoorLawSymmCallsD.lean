/- Part of the proof: an evaluator of the model's code, rules for walks on it, walks. Without conditions. -/
import Derived.Test.YtmilmijjgnapbaaGreatDoorEf
import Derived.Test.YtmilmijjgnapbaaGreatDoorEc
import Derived.Test.YtmilmijjgnapbaaGreatDoorRows
import Derived.Test.YtmilmijjgnapbaaGreatDoorCards
import Derived.Test.YtmilmijjgnapbaaGreatDoorTie
import Derived.SevenTiedAt
import Derived.LaidMore
import Derived.ProofKit
import Derived.OpenShut
import Derived.Stop.Joined
set_option linter.unusedSectionVars false
set_option linter.unusedVariables false
set_option linter.unusedSimpArgs false
namespace Go.Proofs.YtmilmijjgnapbaaGreatDoor.lawSymmCalls
open Go.ChangeShapes Go.WideShapes Go.ChangeAt Go.RowKit
set_option maxHeartbeats 8000000
set_option maxRecDepth 100000
theorem own:ownKnob Tryz.prog.godebug=none:=by kernel_rfl
theorem walked {H_:Type} {enc:TypeId×Value->H_} {w:World} {Fu:Nat} {v0 v2 v3:Value} {cg:Array Value} {x0 x1 x2 x3:DataW H_×List MemPlace} (s0:Go.Ev.nN w v0) (s1:cg.size=4/\∀v∈cg.toList,Go.Ev.nN w v) (s2:Go.Ev.nN w v2) (s3:Go.Ev.nN w v3)
  (t0:DataW.trod enc Tryz.prog w 0 (fun _=>true) true (Fu+6) 22 [v0]=some x0) (t1:DataW.trod enc Tryz.prog w 0 (fun _=>true) true (Fu+6) 27 cg.toList=some x1) (t2:DataW.trod enc Tryz.prog w 0 (fun _=>true) true (Fu+6) 28 [v2]=some x2) (t3:DataW.trod enc Tryz.prog w 0 (fun _=>true) true (Fu+6) 29 [v3]=some x3):
  Calls Tryz.prog 3 #[v0,.agg cg,v2,v3] w fun e w'=>e= .returned (.bool true)/\Go.Ev.hJ w w':=by
 letI:Go.Ev.Env:=⟨fun _=>.bool false,w.heap.size,w.heap⟩
 have ho:Go.Ev.G9 w:=⟨Nat.le_refl _,fun _ _=>rfl⟩;obtain⟨O,V,k,l,g,ps,all,a0,a,b,c,d,a2,a3,hi,hro,hv0,hv1,hv2,hv3,q0,q1,q2,q3,hI⟩:=Go.Ev.HC (enc:=enc) (F:=Fu) ho s0 s1 s2 s3 t0 t1 t2 t3;obtain⟨y,r,h1,h2,_⟩:=hv0.cons_inv;cases h1;obtain⟨y,r,h1,h3,_⟩:=hv2.cons_inv;cases h1;obtain⟨y,r,h1,h4,_⟩:=hv3.cons_inv;cases h1;refine(Go.Ev.uc (P:=Tryz.prog) (G:=Go.Ev.GC) (args:=[a0,.agg [a,b,c,d],a2,a3]) Go.Ev.z8 Go.Ev.RZ hi (Go.Ev.RM _) hro ?_ (Go.Ev.Di Go.Ev.QR rfl (fun _ _=>rfl) rfl (fun _ _ _=>rfl) q0 q1 q2 q3 hI (Go.Ev.St.of V))).mono fun e w' h=>?_
 ·exact Go.Ev.cT.cons h2 (Go.Ev.cT.cons (by simp only[Go.Ev.VR];exact⟨cg,rfl,hv1⟩) (Go.Ev.cT.cons h3 (Go.Ev.cT.cons h4 Go.Ev.cT.nil)))
 ·obtain⟨v,x,V',ρ',rfl,hk,hv,rfl⟩:=h;simp only[Go.Ev.VR] at hv;subst hv;exact⟨rfl,hk⟩
theorem pj {w:World} {t e:TypeId} {base:Nat} {v:Value} (hu:Tryz.prog.underlying t=some (.slice e)) (hok:Value.okWide Tryz.prog w .any base t v):Go.Ev.nN w v/\v.cells.toList= [v]:=by
 letI:Go.Ev.Env:=⟨fun _=>.bool false,0, #[]⟩
 unfold Value.okWide at hok;rw[hu] at hok;have h:=Go.Ev.oU hu hok;refine⟨h,?_⟩;rcases h with rfl | ⟨a,len,cap,c,e,fr,rfl,_⟩<;>rfl
theorem Jb (os:Os) (args:Array Value):laidMetH Tryz.prog Rows.symmCallsRow.laid ((World.doorLaid Tryz.prog 24 os).forCall (fun _ _=>0) ⟨#[],args,[]⟩).memory:=
 laidMetH_of_parts3 (fuel:=8) (laidMet_of_run' 8 (by kernel_rfl) (by kernel_rfl)) (by kernel_rfl) (by kernel_rfl)
end Go.Proofs.YtmilmijjgnapbaaGreatDoor.lawSymmCalls
