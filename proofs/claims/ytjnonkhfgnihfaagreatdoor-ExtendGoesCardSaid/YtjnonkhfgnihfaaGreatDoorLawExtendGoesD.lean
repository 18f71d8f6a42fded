/- Part of the proof: an evaluator of the model's code, rules for walks on it, walks. Without conditions. -/
import Derived.Test.YtjnonkhfgnihfaaGreatDoorEf
import Derived.Test.YtjnonkhfgnihfaaGreatDoorEh
import Derived.Test.YtjnonkhfgnihfaaGreatDoorEc
import Derived.Test.YtjnonkhfgnihfaaGreatDoorRows
import Derived.Test.YtjnonkhfgnihfaaGreatDoorCards
import Derived.Test.YtjnonkhfgnihfaaGreatDoorTie
import Derived.SevenTiedAt
import Derived.LaidMore
import Derived.ProofKit
import Derived.OpenShut
import Derived.Stop.Joined
set_option linter.unusedSectionVars false
set_option linter.unusedVariables false
set_option linter.unusedSimpArgs false
namespace Go.Proofs.YtjnonkhfgnihfaaGreatDoor.lawExtendGoes
open Go.ChangeShapes Go.WideShapes Go.ChangeAt Go.RowKit
set_option maxHeartbeats 8000000
set_option maxRecDepth 100000
theorem own:ownKnob Tryz.prog.godebug=none:=by kernel_rfl
theorem Jf:(Go.Ev.ta Tryz.prog 10 339 Rows.laid_cantilever_ir_shapes).bind (Go.Ev.dv Go.Ev.lz)=some Go.Ev.vO:=by kernel_rfl
theorem Jg:(Go.Ev.ta Tryz.prog 10 375 Rows.laid_math_bits_deBruijn64tab).bind (Go.Ev.dv Go.Ev.lz)=some Go.Ev.gd:=by kernel_rfl
theorem Jh:(Go.Ev.ta Tryz.prog 10 403 Rows.laid_internal_strconv_uint64pow10).bind (Go.Ev.dv Go.Ev.lz)=some Go.Ev.Cn:=by kernel_rfl
theorem Ji:(Go.Ev.ta Tryz.prog 10 408 Rows.laid_math_bits_deBruijn32tab).bind (Go.Ev.dv Go.Ev.lz)=some Go.Ev.Co:=by kernel_rfl
theorem Py [Go.Ev.Env] {W:World} (hL:laidMetH Tryz.prog Rows.extendGoesRow.laid W):6<=W.heap.size/\∀x∈Go.Ev.nk,Go.Ev.ma W x:=by
 obtain⟨vs0,hf0,hv0⟩:=Option.bind_eq_some_iff.1 Jf;obtain⟨e0,fr0,hb0⟩:=Go.Ev.pX (P:=Tryz.prog) (m:=10) "cantilever/ir.shapes" hL (d:=Rows.laid_cantilever_ir_shapes) (by rfl) (by rfl) (g:=0) (t:=339) (by kernel_rfl) (by kernel_rfl) hf0;obtain⟨vs1,hf1,hv1⟩:=Option.bind_eq_some_iff.1 Jg;obtain⟨e1,fr1,hb1⟩:=Go.Ev.pX (P:=Tryz.prog) (m:=10) "math/bits.deBruijn64tab" hL (d:=Rows.laid_math_bits_deBruijn64tab) (by rfl) (by rfl) (g:=1) (t:=375) (by kernel_rfl) (by kernel_rfl) hf1;obtain⟨vs4,hf4,hv4⟩:=Option.bind_eq_some_iff.1 Jh;obtain⟨e4,fr4,hb4⟩:=Go.Ev.pX (P:=Tryz.prog) (m:=10) "internal/strconv.uint64pow10" hL (d:=Rows.laid_internal_strconv_uint64pow10) (by rfl) (by rfl) (g:=4) (t:=403) (by kernel_rfl) (by kernel_rfl) hf4;obtain⟨vs5,hf5,hv5⟩:=Option.bind_eq_some_iff.1 Ji;obtain⟨e5,fr5,hb5⟩:=Go.Ev.pX (P:=Tryz.prog) (m:=10) "math/bits.deBruijn32tab" hL (d:=Rows.laid_math_bits_deBruijn32tab) (by rfl) (by rfl) (g:=5) (t:=408) (by kernel_rfl) (by kernel_rfl) hf5;refine⟨by have:=(Array.getElem?_eq_some_iff.1 hb5).1;omega,fun x hx=>?_⟩;simp only[Go.Ev.nk,List.mem_cons,List.not_mem_nil,or_false] at hx;rcases hx with rfl | rfl | rfl | rfl
 ·exact Go.Ev.ma.of hb0 hv0
 ·exact Go.Ev.ma.of hb1 hv1
 ·exact Go.Ev.ma.of hb4 hv4
 ·exact Go.Ev.ma.of hb5 hv5
theorem Dm [Go.Ev.Env] {D:Go.Ev.dD} {a:Go.Ev.U} {v:Value} (h:Go.Ev.dN D [a] [v]):Go.Ev.VR D a v/\True:=by
 obtain⟨y,r,h1,h2,_⟩:=h.cons_inv;cases h1;exact⟨h2,trivial⟩
theorem walked {H_:Type} {enc:TypeId×Value->H_} {w:World} (hL:laidMetH Tryz.prog Rows.extendGoesRow.laid w) {Fu:Nat} {v1 v2 v3:Value} {x0 x1 x2:DataW H_×List MemPlace} {i0:Int}
  (t0:DataW.trod enc Tryz.prog w 0 (fun _=>true) true (Fu+6) 23 [v1]=some x0) (t1:DataW.trod enc Tryz.prog w 0 (fun _=>true) true (Fu+6) 22 [v2]=some x1) (t2:DataW.trod enc Tryz.prog w 0 (fun _=>true) true (Fu+6) 40 [v3]=some x2):
  Calls Tryz.prog 4 #[.int .i64 i0,v1,v2,v3] w fun e w'=>e= .returned (.bool true)/\Go.Ev.kY w w':=by
 letI:Go.Ev.Env:=⟨fun _=>.bool false,w.heap.size,w.heap⟩
 have ho:Go.Ev.KV w:=⟨Nat.le_refl _,fun _ _=>rfl⟩;obtain⟨hgl,hl⟩:=Py hL;obtain⟨D,V,a0,a1,a2,hi,hro,hgr,hv0,hv1,hv2,s0,s1,s2,hk⟩:=Go.Ev.JO (enc:=enc) ho hgl hl t0 t1 t2;replace hv0:=Dm hv0;replace hv1:=Dm hv1;replace hv2:=Dm hv2;refine(Go.Ev.DW (P:=Tryz.prog) (G:=Go.Ev.GC) (args:=[.int .i64 i0,a0,a1,a2]) Go.Ev.LC Go.Ev.Vh hi hgr hro (by exact(Go.Ev.dN.cons (by simp only[Go.Ev.VR]) (Go.Ev.dN.cons hv0.1 (Go.Ev.dN.cons hv1.1 (Go.Ev.dN.cons hv2.1 Go.Ev.dN.nil))))) (Go.Ev.Dn Go.Ev.Qf rfl rfl rfl hk.laid hk.sh i0 s0 s1 s2 (Go.Ev.F.of V))).mono fun e w' h=>?_
 obtain⟨v,x,V',D',rfl,hk,hv,rfl⟩:=h;simp only[Go.Ev.VR] at hv;subst hv;exact⟨rfl,hk⟩
theorem JJ {H_:Type} {enc:TypeId×Value->H_} {w:World} {n base:Nat} {v:Value} {x:DataW H_×List MemPlace} (h:DataW.trod enc Tryz.prog w 0 (fun _=>true) true n 3 v.cells.toList=some x) (hok:Value.okWide Tryz.prog w .any base 3 v):∃i,v= .int .i64 i:=by
 letI:Go.Ev.Env:=⟨fun _=>.bool false,0, #[]⟩
 obtain⟨i,hi⟩:=Go.Ev.trod_int Tryz.underlying3 h;unfold Value.okWide at hok;rw[Tryz.underlying3] at hok;unfold Cell.okWide at hok;rw[Tryz.underlying3] at hok;cases v with
 | int k m=>exact⟨i,by have: [Value.int k m]= [.int .i64 i]:=hi;simpa using this⟩
 | agg c=>
  unfold Cell.ok at hok;rw[Tryz.underlying3] at hok;exact hok.elim
 | _=>simp[Value.cells] at hi
theorem rH {w:World} {t e:TypeId} {base:Nat} {v:Value} (hu:Tryz.prog.underlying t=some (.slice e)) (hok:Value.okWide Tryz.prog w .any base t v):v.cells.toList= [v]:=by
 letI:Go.Ev.Env:=⟨fun _=>.bool false,0, #[]⟩
 unfold Value.okWide at hok;rw[hu] at hok;rcases Go.Ev.MF hu hok with rfl | ⟨a,len,cap,c,e,fr,rfl,_⟩<;>rfl
theorem Lz (os:Os) (args:Array Value):laidMetH Tryz.prog Rows.extendGoesRow.laid ((World.doorLaid Tryz.prog 80 os).forCall (fun _ _=>0) ⟨#[],args,[]⟩).memory:=
 laidMetH_of_parts3 (fuel:=8) (laidMet_of_run' 8 (by kernel_rfl) (by kernel_rfl)) (by kernel_rfl) (by kernel_rfl)
end Go.Proofs.YtjnonkhfgnihfaaGreatDoor.lawExtendGoes
