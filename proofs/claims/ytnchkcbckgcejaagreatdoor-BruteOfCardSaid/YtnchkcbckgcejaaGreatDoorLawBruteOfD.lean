/- Part of the proof: an evaluator of the model's code, rules for walks on it, walks. Without conditions. -/
import Derived.Test.YtnchkcbckgcejaaGreatDoorEf
import Derived.Test.YtnchkcbckgcejaaGreatDoorRows
import Derived.Test.YtnchkcbckgcejaaGreatDoorCards
import Derived.Test.YtnchkcbckgcejaaGreatDoorTie
import Derived.SevenTiedAt
import Derived.LaidMore
import Derived.ProofKit
import Derived.OpenShut
import Derived.Stop.Joined
set_option linter.unusedSectionVars false
set_option linter.unusedVariables false
set_option linter.unusedSimpArgs false
namespace Go.Proofs.YtnchkcbckgcejaaGreatDoor.lawBruteOf
open Go.ChangeShapes Go.WideShapes Go.ChangeAt Go.RowKit
set_option maxHeartbeats 8000000
set_option maxRecDepth 100000
theorem own:ownKnob Tryz.prog.godebug=none:=by kernel_rfl
theorem Jc:(Go.Ev.r7 Tryz.prog 10 233 Rows.laid_cantilever_ir_shapes).bind (Go.Ev.dv Go.Ev.kC)=some Go.Ev.xB:=by kernel_rfl
theorem Jd:(Go.Ev.r7 Tryz.prog 10 309 Rows.laid_internal_strconv_uint64pow10).bind (Go.Ev.dv Go.Ev.kC)=some Go.Ev.BK:=by kernel_rfl
theorem Je:(Go.Ev.r7 Tryz.prog 10 311 Rows.laid_math_bits_deBruijn32tab).bind (Go.Ev.dv Go.Ev.kC)=some Go.Ev.BM:=by kernel_rfl
theorem Jf:(Go.Ev.r7 Tryz.prog 10 312 Rows.laid_math_bits_deBruijn64tab).bind (Go.Ev.dv Go.Ev.kC)=some Go.Ev.BN:=by kernel_rfl
theorem Pc [Go.Ev.Env] {W:World} (hL:laidMetH Tryz.prog Rows.bruteOfRow.laid W):6<=W.heap.size/\∀x∈Go.Ev.kg,Go.Ev.k9 W x:=by
 obtain⟨vs0,hf0,hv0⟩:=Option.bind_eq_some_iff.1 Jc;obtain⟨e0,fr0,hb0⟩:=Go.Ev.oV (P:=Tryz.prog) (m:=10) "cantilever/ir.shapes" hL (d:=Rows.laid_cantilever_ir_shapes) (by rfl) (by rfl) (g:=0) (t:=233) (by kernel_rfl) (by kernel_rfl) hf0;obtain⟨vs3,hf3,hv3⟩:=Option.bind_eq_some_iff.1 Jd;obtain⟨e3,fr3,hb3⟩:=Go.Ev.oV (P:=Tryz.prog) (m:=10) "internal/strconv.uint64pow10" hL (d:=Rows.laid_internal_strconv_uint64pow10) (by rfl) (by rfl) (g:=3) (t:=309) (by kernel_rfl) (by kernel_rfl) hf3;obtain⟨vs4,hf4,hv4⟩:=Option.bind_eq_some_iff.1 Je;obtain⟨e4,fr4,hb4⟩:=Go.Ev.oV (P:=Tryz.prog) (m:=10) "math/bits.deBruijn32tab" hL (d:=Rows.laid_math_bits_deBruijn32tab) (by rfl) (by rfl) (g:=4) (t:=311) (by kernel_rfl) (by kernel_rfl) hf4;obtain⟨vs5,hf5,hv5⟩:=Option.bind_eq_some_iff.1 Jf;obtain⟨e5,fr5,hb5⟩:=Go.Ev.oV (P:=Tryz.prog) (m:=10) "math/bits.deBruijn64tab" hL (d:=Rows.laid_math_bits_deBruijn64tab) (by rfl) (by rfl) (g:=5) (t:=312) (by kernel_rfl) (by kernel_rfl) hf5;refine⟨by have:=(Array.getElem?_eq_some_iff.1 hb5).1;omega,fun x hx=>?_⟩;simp only[Go.Ev.kg,List.mem_cons,List.not_mem_nil,or_false] at hx;rcases hx with rfl | rfl | rfl | rfl
 ·exact Go.Ev.k9.of hb0 hv0
 ·exact Go.Ev.k9.of hb3 hv3
 ·exact Go.Ev.k9.of hb4 hv4
 ·exact Go.Ev.k9.of hb5 hv5
theorem IN [Go.Ev.Env] {Y:Go.Ev.Ren} {a:Go.Ev.V} {v:Value} (h:Go.Ev.dA Y [a] [v]):Go.Ev.VR Y a v/\True:=by
 obtain⟨y,r,h1,h2,_⟩:=h.cons_inv;cases h1;exact⟨h2,trivial⟩
theorem walked {H_:Type} {enc:TypeId×Value->H_} {w:World} (hL:laidMetH Tryz.prog Rows.bruteOfRow.laid w) {Fu:Nat} {v1 v2:Value} {x0 x1:DataW H_×List MemPlace} {i0:Int}
  (t0:DataW.trod enc Tryz.prog w 0 (fun _=>true) true (Fu+6) 22 [v1]=some x0) (t1:DataW.trod enc Tryz.prog w 0 (fun _=>true) true (Fu+6) 23 [v2]=some x1):
  Calls Tryz.prog 3 #[.int .i64 i0,v1,v2] w fun e w'=>e= .returned (.bool true)/\Go.Ev.iN w w':=by
 letI:Go.Ev.Env:=⟨fun _=>.bool false,w.heap.size,w.heap⟩
 have ho:Go.Ev.KF w:=⟨Nat.le_refl _,fun _ _=>rfl⟩;obtain⟨hgl,hl⟩:=Pc hL;obtain⟨Y,O,a0,a1,hi,hro,hgr,hv0,hv1,s0,s1,hk⟩:=Go.Ev.JM (enc:=enc) ho hgl hl t0 t1;replace hv0:=IN hv0;replace hv1:=IN hv1;refine(Go.Ev.vG (P:=Tryz.prog) (G:=Go.Ev.GC) (args:=[.int .i64 i0,a0,a1]) Go.Ev.F9 Go.Ev.Vm hi hgr hro (by exact(Go.Ev.dA.cons (by simp only[Go.Ev.VR]) (Go.Ev.dA.cons hv0.1 (Go.Ev.dA.cons hv1.1 Go.Ev.dA.nil)))) (Go.Ev.Kr Go.Ev.Uj rfl hk.laid i0 s0 s1 (Go.Ev.H.of O))).mono fun e w' h=>?_
 obtain⟨v,x,O',Y',rfl,hk,hv,rfl⟩:=h;simp only[Go.Ev.VR] at hv;subst hv;exact⟨rfl,hk⟩
theorem JG {H_:Type} {enc:TypeId×Value->H_} {w:World} {n base:Nat} {v:Value} {x:DataW H_×List MemPlace} (h:DataW.trod enc Tryz.prog w 0 (fun _=>true) true n 3 v.cells.toList=some x) (hok:Value.okWide Tryz.prog w .any base 3 v):∃i,v= .int .i64 i:=by
 letI:Go.Ev.Env:=⟨fun _=>.bool false,0, #[]⟩
 obtain⟨i,hi⟩:=Go.Ev.trod_int Tryz.underlying3 h;unfold Value.okWide at hok;rw[Tryz.underlying3] at hok;unfold Cell.okWide at hok;rw[Tryz.underlying3] at hok;cases v with
 | int k m=>exact⟨i,by have: [Value.int k m]= [.int .i64 i]:=hi;simpa using this⟩
 | agg c=>
  unfold Cell.ok at hok;rw[Tryz.underlying3] at hok;exact hok.elim
 | _=>simp[Value.cells] at hi
theorem wj {w:World} {t e:TypeId} {base:Nat} {v:Value} (hu:Tryz.prog.underlying t=some (.slice e)) (hok:Value.okWide Tryz.prog w .any base t v):v.cells.toList= [v]:=by
 letI:Go.Ev.Env:=⟨fun _=>.bool false,0, #[]⟩
 unfold Value.okWide at hok;rw[hu] at hok;rcases Go.Ev.Mu hu hok with rfl | ⟨a,len,cap,c,e,fr,rfl,_⟩<;>rfl
theorem Lk (os:Os) (args:Array Value):laidMetH Tryz.prog Rows.bruteOfRow.laid ((World.doorLaid Tryz.prog 80 os).forCall (fun _ _=>0) ⟨#[],args,[]⟩).memory:=
 laidMetH_of_parts3 (fuel:=8) (laidMet_of_run' 8 (by kernel_rfl) (by kernel_rfl)) (by kernel_rfl) (by kernel_rfl)
end Go.Proofs.YtnchkcbckgcejaaGreatDoor.lawBruteOf
