/- Part of the proof: an evaluator of the model's code, rules for walks on it, walks. Without conditions. -/
import Derived.Test.YtpomgjnfncgkgaaGreatDoorEh
import Derived.Test.YtpomgjnfncgkgaaGreatDoorEd
import Derived.Test.YtpomgjnfncgkgaaGreatDoorRows
import Derived.Test.YtpomgjnfncgkgaaGreatDoorCards
import Derived.Test.YtpomgjnfncgkgaaGreatDoorTie
import Derived.SevenTiedAt
import Derived.LaidMore
import Derived.ProofKit
import Derived.OpenShut
import Derived.Stop.Joined
set_option linter.unusedSectionVars false
set_option linter.unusedVariables false
set_option linter.unusedSimpArgs false
namespace Go.Proofs.YtpomgjnfncgkgaaGreatDoor.lawMachineSteps
open Go.ChangeShapes Go.WideShapes Go.ChangeAt Go.RowKit
set_option maxHeartbeats 8000000
set_option maxRecDepth 100000
theorem own:ownKnob Tryz.prog.godebug=none:=by kernel_rfl
theorem Gc:(Go.Ev.rI Tryz.prog 10 265 Rows.laid_cantilever_ir_shapes).bind (Go.Ev.cW Go.Ev.kK)=some Go.Ev.tH:=by kernel_rfl
theorem Gd:(Go.Ev.rI Tryz.prog 10 306 Rows.laid_internal_strconv_uint64pow10).bind (Go.Ev.cW Go.Ev.kK)=some Go.Ev.fM:=by kernel_rfl
theorem Ge:(Go.Ev.rI Tryz.prog 10 323 Rows.laid_math_bits_deBruijn32tab).bind (Go.Ev.cW Go.Ev.kK)=some Go.Ev.zG:=by kernel_rfl
theorem Gf:(Go.Ev.rI Tryz.prog 10 324 Rows.laid_math_bits_deBruijn64tab).bind (Go.Ev.cW Go.Ev.kK)=some Go.Ev.zH:=by kernel_rfl
theorem La [Go.Ev.Env] {W:World} (hL:laidMetH Tryz.prog Rows.machineStepsRow.laid W):6<=W.heap.size/\∀x∈Go.Ev.mJ,Go.Ev.lB W x:=by
 obtain⟨vs0,hf0,hv0⟩:=Option.bind_eq_some_iff.1 Gc;obtain⟨e0,fr0,hb0⟩:=Go.Ev.oT (P:=Tryz.prog) (m:=10) "cantilever/ir.shapes" hL (d:=Rows.laid_cantilever_ir_shapes) (by rfl) (by rfl) (g:=0) (t:=265) (by kernel_rfl) (by kernel_rfl) hf0;obtain⟨vs1,hf1,hv1⟩:=Option.bind_eq_some_iff.1 Gd;obtain⟨e1,fr1,hb1⟩:=Go.Ev.oT (P:=Tryz.prog) (m:=10) "internal/strconv.uint64pow10" hL (d:=Rows.laid_internal_strconv_uint64pow10) (by rfl) (by rfl) (g:=1) (t:=306) (by kernel_rfl) (by kernel_rfl) hf1;obtain⟨vs4,hf4,hv4⟩:=Option.bind_eq_some_iff.1 Ge;obtain⟨e4,fr4,hb4⟩:=Go.Ev.oT (P:=Tryz.prog) (m:=10) "math/bits.deBruijn32tab" hL (d:=Rows.laid_math_bits_deBruijn32tab) (by rfl) (by rfl) (g:=4) (t:=323) (by kernel_rfl) (by kernel_rfl) hf4;obtain⟨vs5,hf5,hv5⟩:=Option.bind_eq_some_iff.1 Gf;obtain⟨e5,fr5,hb5⟩:=Go.Ev.oT (P:=Tryz.prog) (m:=10) "math/bits.deBruijn64tab" hL (d:=Rows.laid_math_bits_deBruijn64tab) (by rfl) (by rfl) (g:=5) (t:=324) (by kernel_rfl) (by kernel_rfl) hf5;refine⟨by have:=(Array.getElem?_eq_some_iff.1 hb5).1;omega,fun x hx=>?_⟩;simp only[Go.Ev.mJ,List.mem_cons,List.not_mem_nil,or_false] at hx;rcases hx with rfl | rfl | rfl | rfl
 ·exact Go.Ev.lB.of hb0 hv0
 ·exact Go.Ev.lB.of hb1 hv1
 ·exact Go.Ev.lB.of hb4 hv4
 ·exact Go.Ev.lB.of hb5 hv5
theorem Lz [Go.Ev.Env] {S:Go.Ev.dh} {a:Go.Ev.V} {v:Value} (h:Go.Ev.dp S [a] [v]):Go.Ev.H S a v/\True:=by
 obtain⟨y,r,h1,h2,_⟩:=h.cons_inv;cases h1;exact⟨h2,trivial⟩
theorem walked {H_:Type} {enc:TypeId×Value->H_} {w:World} (hL:laidMetH Tryz.prog Rows.machineStepsRow.laid w) {Fu:Nat} {cg:Array Value} {v0:Value} {x0 x1:DataW H_×List MemPlace} {i0:Int}
  (t0:DataW.trod enc Tryz.prog w 0 (fun _=>true) true (Fu+6) 27 [v0]=some x0) (t1:DataW.trod enc Tryz.prog w 0 (fun _=>true) true (Fu+6) 44 cg.toList=some x1):
  Calls Tryz.prog 4 #[v0,.agg cg,.int .i64 i0] w fun e w'=>e= .returned (.bool true)/\Go.Ev.kr w w':=by
 letI:Go.Ev.Env:=⟨fun _=>.bool false,w.heap.size,w.heap⟩
 have ho:Go.Ev.HG w:=⟨Nat.le_refl _,fun _ _=>rfl⟩;obtain⟨hgl,hl⟩:=La hL;obtain⟨S,U,a0,gm,ga,gb,gc,gd,hi,hro,hgr,hv0,hv1,s0,s1,s2,hfine,hk⟩:=Go.Ev.IP (enc:=enc) ho hgl hl t0 t1;replace hv0:=Lz hv0;refine(Go.Ev.Bq (P:=Tryz.prog) (G:=Go.Ev.GC) (args:=[a0,.agg [gm,ga,gb,gc,gd],.int .i64 i0]) Go.Ev.Ic Go.Ev.Po hi hgr hro (by exact(Go.Ev.dp.cons hv0.1 (Go.Ev.dp.cons (by simp only[Go.Ev.H];exact⟨cg,rfl,hv1⟩) (Go.Ev.dp.cons (by simp only[Go.Ev.H]) Go.Ev.dp.nil)))) (Go.Ev.xN Go.Ev.Ll rfl rfl rfl hk.laid hk.sh s0 hfine (r:=⟨_,_⟩) s1 s2 i0 (Go.Ev.J.of U))).mono fun e w' h=>?_
 obtain⟨v,x,U',S',rfl,hk,hv,rfl⟩:=h;simp only[Go.Ev.H] at hv;subst hv;exact⟨rfl,hk⟩
theorem GK {H_:Type} {enc:TypeId×Value->H_} {w:World} {n base:Nat} {v:Value} {x:DataW H_×List MemPlace} (h:DataW.trod enc Tryz.prog w 0 (fun _=>true) true n 3 v.cells.toList=some x) (hok:Value.okWide Tryz.prog w .any base 3 v):∃i,v= .int .i64 i:=by
 letI:Go.Ev.Env:=⟨fun _=>.bool false,0, #[]⟩
 obtain⟨i,hi⟩:=Go.Ev.trod_int Tryz.underlying3 h;unfold Value.okWide at hok;rw[Tryz.underlying3] at hok;unfold Cell.okWide at hok;rw[Tryz.underlying3] at hok;cases v with
 | int k m=>exact⟨i,by have: [Value.int k m]= [.int .i64 i]:=hi;simpa using this⟩
 | agg c=>
  unfold Cell.ok at hok;rw[Tryz.underlying3] at hok;exact hok.elim
 | _=>simp[Value.cells] at hi
theorem Cv {w:World} {t e:TypeId} {base:Nat} {v:Value} (hu:Tryz.prog.underlying t=some (.slice e)) (hok:Value.okWide Tryz.prog w .any base t v):v.cells.toList= [v]:=by
 letI:Go.Ev.Env:=⟨fun _=>.bool false,0, #[]⟩
 unfold Value.okWide at hok;rw[hu] at hok;rcases Go.Ev.I0 hu hok with rfl | ⟨a,len,cap,c,e,fr,rfl,_⟩<;>rfl
theorem Ia (os:Os) (args:Array Value):laidMetH Tryz.prog Rows.machineStepsRow.laid ((World.doorLaid Tryz.prog 80 os).forCall (fun _ _=>0) ⟨#[],args,[]⟩).memory:=
 laidMetH_of_parts3 (fuel:=8) (laidMet_of_run' 8 (by kernel_rfl) (by kernel_rfl)) (by kernel_rfl) (by kernel_rfl)
end Go.Proofs.YtpomgjnfncgkgaaGreatDoor.lawMachineSteps
