/- Part of the proof: an evaluator of the model's code, rules for walks on it, walks. Without conditions. -/
import Derived.Test.YtpomgjnfncgkgaaGreatDoorEe
import Derived.Test.YtpomgjnfncgkgaaGreatDoorEg
import Derived.Test.YtpomgjnfncgkgaaGreatDoorEc
import Derived.Test.YtpomgjnfncgkgaaGreatDoorRows
import Derived.Test.YtpomgjnfncgkgaaGreatDoorCards
import Derived.Test.YtpomgjnfncgkgaaGreatDoorTie
import Derived.SevenTiedAt
import Derived.LaidMore
import Derived.ProofKit
import Derived.OpenShut
import Derived.Stop.Joined
set_option linter.unusedSectionVars false
set_option linter.unusedVariables false
set_option linter.unusedSimpArgs false
namespace Go.Proofs.YtpomgjnfncgkgaaGreatDoor.lawMachineKeeps
open Go.ChangeShapes Go.WideShapes Go.ChangeAt Go.RowKit
set_option maxHeartbeats 8000000
set_option maxRecDepth 100000
theorem own:ownKnob Tryz.prog.godebug=none:=by kernel_rfl
theorem GG:(Go.Ev.rv Tryz.prog 10 265 Rows.laid_cantilever_ir_shapes).bind (Go.Ev.cQ Go.Ev.kb)=some Go.Ev.tJ:=by kernel_rfl
theorem GH:(Go.Ev.rv Tryz.prog 10 306 Rows.laid_internal_strconv_uint64pow10).bind (Go.Ev.cQ Go.Ev.kb)=some Go.Ev.fJ:=by kernel_rfl
theorem GI:(Go.Ev.rv Tryz.prog 10 323 Rows.laid_math_bits_deBruijn32tab).bind (Go.Ev.cQ Go.Ev.kb)=some Go.Ev.zL:=by kernel_rfl
theorem GJ:(Go.Ev.rv Tryz.prog 10 324 Rows.laid_math_bits_deBruijn64tab).bind (Go.Ev.cQ Go.Ev.kb)=some Go.Ev.zM:=by kernel_rfl
theorem Ls [Go.Ev.Env] {W:World} (hL:laidMetH Tryz.prog Rows.machineKeepsRow.laid W):6<=W.heap.size/\∀x∈Go.Ev.mj,Go.Ev.kV W x:=by
 obtain⟨vs0,hf0,hv0⟩:=Option.bind_eq_some_iff.1 GG;obtain⟨e0,fr0,hb0⟩:=Go.Ev.oA (P:=Tryz.prog) (m:=10) "cantilever/ir.shapes" hL (d:=Rows.laid_cantilever_ir_shapes) (by rfl) (by rfl) (g:=0) (t:=265) (by kernel_rfl) (by kernel_rfl) hf0;obtain⟨vs1,hf1,hv1⟩:=Option.bind_eq_some_iff.1 GH;obtain⟨e1,fr1,hb1⟩:=Go.Ev.oA (P:=Tryz.prog) (m:=10) "internal/strconv.uint64pow10" hL (d:=Rows.laid_internal_strconv_uint64pow10) (by rfl) (by rfl) (g:=1) (t:=306) (by kernel_rfl) (by kernel_rfl) hf1;obtain⟨vs4,hf4,hv4⟩:=Option.bind_eq_some_iff.1 GI;obtain⟨e4,fr4,hb4⟩:=Go.Ev.oA (P:=Tryz.prog) (m:=10) "math/bits.deBruijn32tab" hL (d:=Rows.laid_math_bits_deBruijn32tab) (by rfl) (by rfl) (g:=4) (t:=323) (by kernel_rfl) (by kernel_rfl) hf4;obtain⟨vs5,hf5,hv5⟩:=Option.bind_eq_some_iff.1 GJ;obtain⟨e5,fr5,hb5⟩:=Go.Ev.oA (P:=Tryz.prog) (m:=10) "math/bits.deBruijn64tab" hL (d:=Rows.laid_math_bits_deBruijn64tab) (by rfl) (by rfl) (g:=5) (t:=324) (by kernel_rfl) (by kernel_rfl) hf5;refine⟨by have:=(Array.getElem?_eq_some_iff.1 hb5).1;omega,fun x hx=>?_⟩;simp only[Go.Ev.mj,List.mem_cons,List.not_mem_nil,or_false] at hx;rcases hx with rfl | rfl | rfl | rfl
 ·exact Go.Ev.kV.of hb0 hv0
 ·exact Go.Ev.kV.of hb1 hv1
 ·exact Go.Ev.kV.of hb4 hv4
 ·exact Go.Ev.kV.of hb5 hv5
theorem AO [Go.Ev.Env] {I:Go.Ev.dg} {a:Go.Ev.V} {v:Value} (h:Go.Ev.dA I [a] [v]):Go.Ev.VR I a v/\True:=by
 obtain⟨y,r,h1,h2,_⟩:=h.cons_inv;cases h1;exact⟨h2,trivial⟩
theorem walked {H_:Type} {enc:TypeId×Value->H_} {w:World} (hL:laidMetH Tryz.prog Rows.machineKeepsRow.laid w) {Fu:Nat} {v0 v1 v2:Value} {x0 x1 x2:DataW H_×List MemPlace}
  (t0:DataW.trod enc Tryz.prog w 0 (fun _=>true) true (Fu+5) 22 [v0]=some x0) (t1:DataW.trod enc Tryz.prog w 0 (fun _=>true) true (Fu+5) 27 [v1]=some x1) (t2:DataW.trod enc Tryz.prog w 0 (fun _=>true) true (Fu+5) 34 [v2]=some x2):
  Calls Tryz.prog 7 #[v0,v1,v2] w fun e w'=>e= .returned (.bool true)/\Go.Ev.jK w w':=by
 letI:Go.Ev.Env:=⟨fun _=>.bool false,w.heap.size,w.heap⟩
 have ho:Go.Ev.HX w:=⟨Nat.le_refl _,fun _ _=>rfl⟩;obtain⟨hgl,hl⟩:=Ls hL;obtain⟨I,O,a0,a1,a2,hi,hro,hgr,hv0,hv1,hv2,s0,s1,s2,hk⟩:=Go.Ev.I4 (enc:=enc) ho hgl hl t0 t1 t2;replace hv0:=AO hv0;replace hv1:=AO hv1;replace hv2:=AO hv2;refine(Go.Ev.BH (P:=Tryz.prog) (G:=Go.Ev.GC) (args:=[a0,a1,a2]) Go.Ev.Is Go.Ev.Qb hi hgr hro (by exact(Go.Ev.dA.cons hv0.1 (Go.Ev.dA.cons hv1.1 (Go.Ev.dA.cons hv2.1 Go.Ev.dA.nil)))) (Go.Ev.xM Go.Ev.LH rfl rfl rfl hk.laid hk.sh s0 s1 s2 (Go.Ev.D.of O))).mono fun e w' h=>?_
 obtain⟨v,x,O',I',rfl,hk,hv,rfl⟩:=h;simp only[Go.Ev.VR] at hv;subst hv;exact⟨rfl,hk⟩
theorem qc {w:World} {t e:TypeId} {base:Nat} {v:Value} (hu:Tryz.prog.underlying t=some (.slice e)) (hok:Value.okWide Tryz.prog w .any base t v):v.cells.toList= [v]:=by
 letI:Go.Ev.Env:=⟨fun _=>.bool false,0, #[]⟩
 unfold Value.okWide at hok;rw[hu] at hok;rcases Go.Ev.Jf hu hok with rfl | ⟨a,len,cap,c,e,fr,rfl,_⟩<;>rfl
theorem Iq (os:Os) (args:Array Value):laidMetH Tryz.prog Rows.machineKeepsRow.laid ((World.doorLaid Tryz.prog 80 os).forCall (fun _ _=>0) ⟨#[],args,[]⟩).memory:=
 laidMetH_of_parts3 (fuel:=8) (laidMet_of_run' 8 (by kernel_rfl) (by kernel_rfl)) (by kernel_rfl) (by kernel_rfl)
end Go.Proofs.YtpomgjnfncgkgaaGreatDoor.lawMachineKeeps
