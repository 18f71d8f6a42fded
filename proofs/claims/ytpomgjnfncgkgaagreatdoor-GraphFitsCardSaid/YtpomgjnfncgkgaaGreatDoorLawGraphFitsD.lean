/- Part of the proof: an evaluator of the model's code, rules for walks on it, walks. Without conditions. -/
import Derived.Test.YtpomgjnfncgkgaaGreatDoorEf
import Derived.Test.YtpomgjnfncgkgaaGreatDoorEe
import Derived.Test.YtpomgjnfncgkgaaGreatDoorRows
import Derived.Test.YtpomgjnfncgkgaaGreatDoorCards
import Derived.Test.YtpomgjnfncgkgaaGreatDoorTie
import Derived.SevenTiedAt
import Derived.LaidMore
import Derived.ProofKit
import Derived.OpenShut
import Derived.Stop.Joined
set_option linter.unusedSectionVars false
set_option linter.unusedVariables false
set_option linter.unusedSimpArgs false
namespace Go.Proofs.YtpomgjnfncgkgaaGreatDoor.lawGraphFits
open Go.ChangeShapes Go.WideShapes Go.ChangeAt Go.RowKit
set_option maxHeartbeats 8000000
set_option maxRecDepth 100000
theorem own:ownKnob Tryz.prog.godebug=none:=by kernel_rfl
theorem Ee:(Go.Ev.pW Tryz.prog 10 265 Rows.laid_cantilever_ir_shapes).bind (Go.Ev.cF Go.Ev.jH)=some Go.Ev.sa:=by kernel_rfl
theorem Ef:(Go.Ev.pW Tryz.prog 10 306 Rows.laid_internal_strconv_uint64pow10).bind (Go.Ev.cF Go.Ev.jH)=some Go.Ev.fp:=by kernel_rfl
theorem Eg:(Go.Ev.pW Tryz.prog 10 323 Rows.laid_math_bits_deBruijn32tab).bind (Go.Ev.cF Go.Ev.jH)=some Go.Ev.xW:=by kernel_rfl
theorem Eh:(Go.Ev.pW Tryz.prog 10 324 Rows.laid_math_bits_deBruijn64tab).bind (Go.Ev.cF Go.Ev.jH)=some Go.Ev.xX:=by kernel_rfl
theorem IG [Go.Ev.Env] {W:World} (hL:laidMetH Tryz.prog Rows.graphFitsRow.laid W):6<=W.heap.size/\∀x∈Go.Ev.lj,Go.Ev.jZ W x:=by
 obtain⟨vs0,hf0,hv0⟩:=Option.bind_eq_some_iff.1 Ee;obtain⟨e0,fr0,hb0⟩:=Go.Ev.ni (P:=Tryz.prog) (m:=10) "cantilever/ir.shapes" hL (d:=Rows.laid_cantilever_ir_shapes) (by rfl) (by rfl) (g:=0) (t:=265) (by kernel_rfl) (by kernel_rfl) hf0;obtain⟨vs1,hf1,hv1⟩:=Option.bind_eq_some_iff.1 Ef;obtain⟨e1,fr1,hb1⟩:=Go.Ev.ni (P:=Tryz.prog) (m:=10) "internal/strconv.uint64pow10" hL (d:=Rows.laid_internal_strconv_uint64pow10) (by rfl) (by rfl) (g:=1) (t:=306) (by kernel_rfl) (by kernel_rfl) hf1;obtain⟨vs4,hf4,hv4⟩:=Option.bind_eq_some_iff.1 Eg;obtain⟨e4,fr4,hb4⟩:=Go.Ev.ni (P:=Tryz.prog) (m:=10) "math/bits.deBruijn32tab" hL (d:=Rows.laid_math_bits_deBruijn32tab) (by rfl) (by rfl) (g:=4) (t:=323) (by kernel_rfl) (by kernel_rfl) hf4;obtain⟨vs5,hf5,hv5⟩:=Option.bind_eq_some_iff.1 Eh;obtain⟨e5,fr5,hb5⟩:=Go.Ev.ni (P:=Tryz.prog) (m:=10) "math/bits.deBruijn64tab" hL (d:=Rows.laid_math_bits_deBruijn64tab) (by rfl) (by rfl) (g:=5) (t:=324) (by kernel_rfl) (by kernel_rfl) hf5;refine⟨by have:=(Array.getElem?_eq_some_iff.1 hb5).1;omega,fun x hx=>?_⟩;simp only[Go.Ev.lj,List.mem_cons,List.not_mem_nil,or_false] at hx;rcases hx with rfl | rfl | rfl | rfl
 ·exact Go.Ev.jZ.of hb0 hv0
 ·exact Go.Ev.jZ.of hb1 hv1
 ·exact Go.Ev.jZ.of hb4 hv4
 ·exact Go.Ev.jZ.of hb5 hv5
theorem DU [Go.Ev.Env] {ρ:Go.Ev.cz} {a:Go.Ev.AV} {v:Value} (h:Go.Ev.cG ρ [a] [v]):Go.Ev.VR ρ a v/\True:=by
 obtain⟨y,r,h1,h2,_⟩:=h.cons_inv;cases h1;exact⟨h2,trivial⟩
theorem walked {H:Type} {enc:TypeId×Value->H} {w:World} (hL:laidMetH Tryz.prog Rows.graphFitsRow.laid w) {Fu:Nat} {cg:Array Value} {v1 v2:Value} {x0 x1 x2:DataW H×List MemPlace} {i0:Int}
  (t0:DataW.trod enc Tryz.prog w 0 (fun _=>true) true (Fu+5) 26 cg.toList=some x0) (t1:DataW.trod enc Tryz.prog w 0 (fun _=>true) true (Fu+5) 27 [v1]=some x1) (t2:DataW.trod enc Tryz.prog w 0 (fun _=>true) true (Fu+5) 22 [v2]=some x2):
  Calls Tryz.prog 3 #[.agg cg,v1,v2,.int .i64 i0] w fun e w'=>e= .returned (.bool true)/\Go.Ev.js w w':=by
 letI:Go.Ev.Env:=⟨fun _=>.bool false,w.heap.size,w.heap⟩
 have ho:Go.Ev.Fy w:=⟨Nat.le_refl _,fun _ _=>rfl⟩;obtain⟨hgl,hl⟩:=IG hL;obtain⟨ρ,σ,ga,gb,gc,gd,a1,a2,hi,hro,hgr,hv0,hv1,hv2,s0,s1,s2,hfine,hk⟩:=Go.Ev.GB (enc:=enc) ho hgl hl t0 t1 t2;replace hv1:=DU hv1;replace hv2:=DU hv2;refine(Go.Ev.zC (P:=Tryz.prog) (G:=Go.Ev.GC) (args:=[.agg [ga,gb,gc,gd],a1,a2,.int .i64 i0]) Go.Ev.F2 Go.Ev.Ma hi hgr hro (by exact(Go.Ev.cG.cons (by simp only[Go.Ev.VR];exact⟨cg,rfl,hv0⟩) (Go.Ev.cG.cons hv1.1 (Go.Ev.cG.cons hv2.1 (Go.Ev.cG.cons (by simp only[Go.Ev.VR]) Go.Ev.cG.nil))))) (Go.Ev.A0 Go.Ev.IU rfl hk.laid hk.sh s0 s1 hfine s2 i0 (Go.Ev.St.of σ))).mono fun e w' h=>?_
 obtain⟨v,x,σ',ρ',rfl,hk,hv,rfl⟩:=h;simp only[Go.Ev.VR] at hv;subst hv;exact⟨rfl,hk⟩
theorem EI {H:Type} {enc:TypeId×Value->H} {w:World} {n base:Nat} {v:Value} {x:DataW H×List MemPlace} (h:DataW.trod enc Tryz.prog w 0 (fun _=>true) true n 3 v.cells.toList=some x) (hok:Value.okWide Tryz.prog w .any base 3 v):∃i,v= .int .i64 i:=by
 letI:Go.Ev.Env:=⟨fun _=>.bool false,0, #[]⟩
 obtain⟨i,hi⟩:=Go.Ev.trod_int Tryz.underlying3 h;unfold Value.okWide at hok;rw[Tryz.underlying3] at hok;unfold Cell.okWide at hok;rw[Tryz.underlying3] at hok;cases v with
 | int k m=>exact⟨i,by have: [Value.int k m]= [.int .i64 i]:=hi;simpa using this⟩
 | agg c=>
  unfold Cell.ok at hok;rw[Tryz.underlying3] at hok;exact hok.elim
 | _=>simp[Value.cells] at hi
theorem tv {w:World} {t e:TypeId} {base:Nat} {v:Value} (hu:Tryz.prog.underlying t=some (.slice e)) (hok:Value.okWide Tryz.prog w .any base t v):v.cells.toList= [v]:=by
 letI:Go.Ev.Env:=⟨fun _=>.bool false,0, #[]⟩
 unfold Value.okWide at hok;rw[hu] at hok;rcases Go.Ev.ou hu hok with rfl | ⟨a,len,cap,c,e,fr,rfl,_⟩<;>rfl
theorem F0 (os:Os) (args:Array Value):laidMetH Tryz.prog Rows.graphFitsRow.laid ((World.doorLaid Tryz.prog 80 os).forCall (fun _ _=>0) ⟨#[],args,[]⟩).memory:=
 laidMetH_of_parts3 (fuel:=8) (laidMet_of_run' 8 (by kernel_rfl) (by kernel_rfl)) (by kernel_rfl) (by kernel_rfl)
end Go.Proofs.YtpomgjnfncgkgaaGreatDoor.lawGraphFits
