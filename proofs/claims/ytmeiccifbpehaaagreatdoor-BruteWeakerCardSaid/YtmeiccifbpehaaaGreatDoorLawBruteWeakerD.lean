/- Part of the proof: an evaluator of the model's code, rules for walks on it, walks. Without conditions. -/
import Derived.Test.YtmeiccifbpehaaaGreatDoorEe
import Derived.Test.YtmeiccifbpehaaaGreatDoorEf
import Derived.Test.YtmeiccifbpehaaaGreatDoorRows
import Derived.Test.YtmeiccifbpehaaaGreatDoorCards
import Derived.Test.YtmeiccifbpehaaaGreatDoorTie
import Derived.SevenTiedAt
import Derived.LaidMore
import Derived.ProofKit
import Derived.OpenShut
import Derived.Stop.Joined
set_option linter.unusedSectionVars false
set_option linter.unusedVariables false
set_option linter.unusedSimpArgs false
namespace Go.Proofs.YtmeiccifbpehaaaGreatDoor.lawBruteWeaker
open Go.ChangeShapes Go.WideShapes Go.ChangeAt Go.RowKit
set_option maxHeartbeats 8000000
set_option maxRecDepth 100000
theorem own:ownKnob Tryz.prog.godebug=none:=by kernel_rfl
theorem Ku:(Go.Ev.sE Tryz.prog 10 201 Rows.laid_cantilever_ir_shapes).bind (Go.Ev.cX Go.Ev.kF)=some Go.Ev.vE:=by kernel_rfl
theorem Kv:(Go.Ev.sE Tryz.prog 10 282 Rows.laid_internal_strconv_uint64pow10).bind (Go.Ev.cX Go.Ev.kF)=some Go.Ev.CX:=by kernel_rfl
theorem Kw:(Go.Ev.sE Tryz.prog 10 284 Rows.laid_math_bits_deBruijn32tab).bind (Go.Ev.cX Go.Ev.kF)=some Go.Ev.CY:=by kernel_rfl
theorem Kx:(Go.Ev.sE Tryz.prog 10 285 Rows.laid_math_bits_deBruijn64tab).bind (Go.Ev.cX Go.Ev.kF)=some Go.Ev.CZ:=by kernel_rfl
theorem Rl [Go.Ev.Env] {W:World} (hL:laidMetH Tryz.prog Rows.bruteWeakerRow.laid W):6<=W.heap.size/\∀x∈Go.Ev.kh,Go.Ev.ll W x:=by
 obtain⟨vs0,hf0,hv0⟩:=Option.bind_eq_some_iff.1 Ku;obtain⟨e0,fr0,hb0⟩:=Go.Ev.py (P:=Tryz.prog) (m:=10) "cantilever/ir.shapes" hL (d:=Rows.laid_cantilever_ir_shapes) (by rfl) (by rfl) (g:=0) (t:=201) (by kernel_rfl) (by kernel_rfl) hf0;obtain⟨vs3,hf3,hv3⟩:=Option.bind_eq_some_iff.1 Kv;obtain⟨e3,fr3,hb3⟩:=Go.Ev.py (P:=Tryz.prog) (m:=10) "internal/strconv.uint64pow10" hL (d:=Rows.laid_internal_strconv_uint64pow10) (by rfl) (by rfl) (g:=3) (t:=282) (by kernel_rfl) (by kernel_rfl) hf3;obtain⟨vs4,hf4,hv4⟩:=Option.bind_eq_some_iff.1 Kw;obtain⟨e4,fr4,hb4⟩:=Go.Ev.py (P:=Tryz.prog) (m:=10) "math/bits.deBruijn32tab" hL (d:=Rows.laid_math_bits_deBruijn32tab) (by rfl) (by rfl) (g:=4) (t:=284) (by kernel_rfl) (by kernel_rfl) hf4;obtain⟨vs5,hf5,hv5⟩:=Option.bind_eq_some_iff.1 Kx;obtain⟨e5,fr5,hb5⟩:=Go.Ev.py (P:=Tryz.prog) (m:=10) "math/bits.deBruijn64tab" hL (d:=Rows.laid_math_bits_deBruijn64tab) (by rfl) (by rfl) (g:=5) (t:=285) (by kernel_rfl) (by kernel_rfl) hf5;refine⟨by have:=(Array.getElem?_eq_some_iff.1 hb5).1;omega,fun x hx=>?_⟩;simp only[Go.Ev.kh,List.mem_cons,List.not_mem_nil,or_false] at hx;rcases hx with rfl | rfl | rfl | rfl
 ·exact Go.Ev.ll.of hb0 hv0
 ·exact Go.Ev.ll.of hb3 hv3
 ·exact Go.Ev.ll.of hb4 hv4
 ·exact Go.Ev.ll.of hb5 hv5
theorem J7 [Go.Ev.Env] {U:Go.Ev.Ren} {a:Go.Ev.Y} {v:Value} (h:Go.Ev.di U [a] [v]):Go.Ev.VR U a v/\True:=by
 obtain⟨y,r,h1,h2,_⟩:=h.cons_inv;cases h1;exact⟨h2,trivial⟩
theorem walked {H_:Type} {enc:TypeId×Value->H_} {w:World} (hL:laidMetH Tryz.prog Rows.bruteWeakerRow.laid w) {Fu:Nat} {v1 v2:Value} {x0 x1:DataW H_×List MemPlace}
  (t0:DataW.trod enc Tryz.prog w 0 (fun _=>true) true (Fu+6) 22 [v1]=some x0) (t1:DataW.trod enc Tryz.prog w 0 (fun _=>true) true (Fu+6) 23 [v2]=some x1):
  Calls Tryz.prog 3 #[v1,v2] w fun e w'=>e= .returned (.bool true)/\Go.Ev.iK w w':=by
 letI:Go.Ev.Env:=⟨fun _=>.bool false,w.heap.size,w.heap⟩
 have ho:Go.Ev.MO w:=⟨Nat.le_refl _,fun _ _=>rfl⟩;obtain⟨hgl,hl⟩:=Rl hL;obtain⟨U,V,a0,a1,hi,hro,hgr,hv0,hv1,s0,s1,hk⟩:=Go.Ev.Lp (enc:=enc) ho hgl hl t0 t1;replace hv0:=J7 hv0;replace hv1:=J7 hv1;refine(Go.Ev.wC (P:=Tryz.prog) (G:=Go.Ev.GC) (args:=[a0,a1]) Go.Ev.G2 Go.Ev.W2 hi hgr hro (by exact(Go.Ev.di.cons hv0.1 (Go.Ev.di.cons hv1.1 Go.Ev.di.nil))) (Go.Ev.Bd Go.Ev.VW rfl hk.sh hk.laid s0 s1 (Go.Ev.H.of V))).mono fun e w' h=>?_
 obtain⟨v,x,V',U',rfl,hk,hv,rfl⟩:=h;simp only[Go.Ev.VR] at hv;subst hv;exact⟨rfl,hk⟩
theorem xb {w:World} {t e:TypeId} {base:Nat} {v:Value} (hu:Tryz.prog.underlying t=some (.slice e)) (hok:Value.okWide Tryz.prog w .any base t v):v.cells.toList= [v]:=by
 letI:Go.Ev.Env:=⟨fun _=>.bool false,0, #[]⟩
 unfold Value.okWide at hok;rw[hu] at hok;rcases Go.Ev.Ot hu hok with rfl | ⟨a,len,cap,c,e,fr,rfl,_⟩<;>rfl
theorem Nr (os:Os) (args:Array Value):laidMetH Tryz.prog Rows.bruteWeakerRow.laid ((World.doorLaid Tryz.prog 80 os).forCall (fun _ _=>0) ⟨#[],args,[]⟩).memory:=
 laidMetH_of_parts3 (fuel:=8) (laidMet_of_run' 8 (by kernel_rfl) (by kernel_rfl)) (by kernel_rfl) (by kernel_rfl)
end Go.Proofs.YtmeiccifbpehaaaGreatDoor.lawBruteWeaker
