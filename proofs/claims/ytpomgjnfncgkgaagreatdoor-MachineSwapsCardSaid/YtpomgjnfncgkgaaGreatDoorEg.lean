/- Part of the proof: an evaluator of the model's code, rules for walks on it, walks. Without conditions. -/
import Derived.Test.YtpomgjnfncgkgaaGreatDoorEf
set_option linter.unusedSectionVars false
set_option linter.unusedVariables false
set_option linter.unusedSimpArgs false
namespace Go.Ev
variable [Env]
open Go.Proofs
set_option maxRecDepth 100000
set_option maxHeartbeats 8000000
noncomputable def EK (f:Nat) (args:List AV):Option AV:=bif Nat.beq f 18 then(match args with | []=>some (.bool true) | _=>none) else none
noncomputable def GC:Cx:=⟨6,Bl,Dm,EK,jI,[],fun _ _ _=>none,fun _ _ _=>none⟩
theorem Iz:xS Tryz.prog GC:=by
 refine⟨HC,fun f args v h=>?_,(fun e h=>by cases h),(fun f a s v h=>by cases h)⟩;have h:EK f args=some v:=h;show AW Tryz.prog 6 jI f args v;unfold EK at h;cases h18:Nat.beq f 18 with
 | true=>
  rw[h18] at h;simp only[cond_true] at h;cases args with
  | nil=>cases h;rw[Nat.eq_of_beq_eq_true h18];exact FN
  | cons _ _=>cases h
 | false=>
  rw[h18] at h;cases h
theorem Fg:Plain GC:=⟨fun _ _ _=>rfl,fun f a h=>by
 show EK f a=none
 have:Nat.beq f 18=false:=by
  unfold Cf at h;cases h2:Nat.beq f 18 with
  | false=>rfl
  | true=>rw[h2,Bool.or_true] at h;cases h
 unfold EK;rw[this];rfl,rfl,fun _ _ _=>rfl,fun f h=>h⟩
theorem nX {gl:Nat} {σ:av} {g:Nat} {c:List AV} {r:List (Nat×List AV)} {e:TypeId} (h1:Nat.ble (Nat.succ g) gl=true) (h2:dE c=true) (h3:gF c c=true) (h4:σ.m.get g=some (.row c e true)) (h5:iu gl σ r=true):iu gl σ ((g,c)::r)=true:=by
 show(bif Nat.ble (Nat.succ g) gl then(match σ.m.get g with
  | some (.row cells _ true)=>bif dE c then(bif gF cells c then iu gl σ r else false) else false
  | _=>false) else false)=true
 rw[h4,h1];dsimp only;rw[h2,h3,h5];rfl
structure yh (K:KP):Prop where
 h0:∃e,K (posOf 0) (.row qu e true)
 h1:∃e,K (posOf 1) (.row ew e true)
 h4:∃e,K (posOf 4) (.row vX e true)
 h5:∃e,K (posOf 5) (.row v5 e true)
theorem yh.laid {K:KP} (h:yh K) (σ:av) (L:Own) (hst:St σ K L):iu GC.gl σ GC.laid=true:=by
 obtain⟨⟨e0,h0⟩,⟨e1,h1⟩,⟨e4,h4⟩,⟨e5,h5⟩⟩:=h;exact nX (gl:=6) (by decide) (by kernel_rfl) (by kernel_rfl) (hst.dX h0) (nX (by decide) (by kernel_rfl) (by kernel_rfl) (hst.dX h1) (nX (by decide) (by kernel_rfl) (by kernel_rfl) (hst.dX h4) (nX (by decide) (by kernel_rfl) (by kernel_rfl) (hst.dX h5) rfl)))
theorem yh.sh {K:KP} (h:yh K):kb GC K:=by
 obtain⟨e,h0⟩:=h.h0;have e1:wJ=qu:=by kernel_rfl
 exact⟨by decide,e,true,by rw[e1];exact h0⟩
theorem Hm (E:Nat→TypeId):(σG 6 jI E).m.get (posOf 0)=some (.row qu (E 0) true):=rfl
theorem GA (E:Nat→TypeId):(σG 6 jI E).m.get (posOf 1)=some (.row ew (E 1) true):=rfl
theorem Hj (E:Nat→TypeId):(σG 6 jI E).m.get (posOf 4)=some (.row vX (E 4) true):=rfl
theorem G4 (E:Nat→TypeId):(σG 6 jI E).m.get (posOf 5)=some (.row v5 (E 5) true):=rfl
section
variable {H:Type} {enc:TypeId×Value→H} {w:World}
theorem EL (ho:Ei w) (hgl:6≤w.heap.size) (hl:∀x∈jI,iY w x) {F:Nat} {q0 q1 q2:List Value} {x0 x1 x2:DataW H×List MemPlace}
  (t0:DataW.trod enc Tryz.prog w 0 (fun _=>true) true (F+5) 22 q0=some x0) (t1:DataW.trod enc Tryz.prog w 0 (fun _=>true) true (F+5) 27 q1=some x1) (t2:DataW.trod enc Tryz.prog w 0 (fun _=>true) true (F+5) 34 q2=some x2):
  ∃(ρ:bR) (σ:av) (a0 a1 a2:AV),Inv ρ σ w∧iQ σ∧GR ρ GC∧cf ρ [a0] q0∧cf ρ [a1] q1∧cf ρ [a2] q2∧bD (tw σ) 1 dI ((gU x0.1).map pS) a0∧bD (tw σ) 2 (jl (tw σ) F) ((gU x1.1).map (Fm F)) a1∧bD (tw σ) 1 dI ((gU x2.1).map pS) a2∧yh (tw σ):=by
 have hw:∃(r:Nat) (c:Array Value) (e:TypeId) (fr:Nat×Nat),w.heap[r]?=some (Obj.cells c e fr):=by
  obtain⟨c,e,fr,h,_⟩:=hl (0,qu) (.head _);exact⟨0,c,e,fr,h⟩
 have hi0:=H0 ho hgl II hl
 have hr0:iQ (σG 6 jI (elemAt w)):=fun b o h=>by
  obtain⟨x,_,_,rfl⟩:=σG_get h;rfl
 obtain⟨ρ1,σ1,vs0,i1,r1,l1,d0,v0⟩:=lay hw (F+5) 22 q0 x0.1 x0.2 t0 _ _ hi0 hr0;obtain⟨ρ2,σ2,vs1,i2,r2,l2,d1,v1⟩:=lay hw (F+5) 27 q1 x1.1 x1.2 t1 _ _ i1 r1;obtain⟨ρ3,σ3,vs2,i3,r3,l3,d2,v2⟩:=lay hw (F+5) 34 q2 x2.1 x2.2 t2 _ _ i2 r2;have n1:∀(b:Nat) (o:bJ),σ1.m.get b=some o→b<σ1.next:=fun b o h=>dx.fresh i1 h
 have n2:∀(b:Nat) (o:bJ),σ2.m.get b=some o→b<σ2.next:=fun b o h=>dx.fresh i2 h
 have n3:∀(b:Nat) (o:bJ),σ3.m.get b=some o→b<σ3.next:=fun b o h=>dx.fresh i3 h
 have k12:KP.le (tw σ1) (tw σ2):=fun b o h=>⟨n2 b o (l2.get b o h.2),l2.get b o h.2⟩
 have k23:KP.le (tw σ2) (tw σ3):=fun b o h=>⟨n3 b o (l3.get b o h.2),l3.get b o h.2⟩
 have c2:Tryz.prog.cellsOf 2=1:=by kernel_rfl
 have c3:Tryz.prog.cellsOf 3=1:=by kernel_rfl
 obtain⟨a0,rfl,s0⟩:=ll (m:=1) pS dI Tryz.underlying22 c2 (by decide) n1 (kD _ _ _ _ x0.2 t0) d0 fun x vs hf hd=>(kW Tryz.underlying2 hf hd).1
 obtain⟨a1,rfl,s1⟩:=Dv n2 F x1.1 vs1 (kD _ _ _ _ x1.2 t1) d1;obtain⟨a2,rfl,s2⟩:=ll (m:=1) pS dI Tryz.underlying34 c3 (by decide) n3 (kD _ _ _ _ x2.2 t2) d2 fun x vs hf hd=>(kW Tryz.underlying3 hf hd).1
 have hget:∀(b:Nat) (o:bJ),(σG 6 jI (elemAt w)).m.get b=some o→tw σ3 b o:=fun b o h=>⟨n3 b o (l3.get b o (l2.get b o (l1.get b o h))),l3.get b o (l2.get b o (l1.get b o h))⟩
 refine⟨ρ3,σ3,a0,a1,a2,i3,r3,fun g hg=>?_,v0.mono (bR.le_trans l2.le l3.le),v1.mono l3.le,v2,(s0.mono k12 fun _ _ h=>h).mono k23 fun _ _ h=>h,s1.mono k23 fun _ _ h=>h.mono k23,s2,⟨⟨_,hget _ _ (Hm _)⟩,⟨_,hget _ _ (GA _)⟩,⟨_,hget _ _ (Hj _)⟩,⟨_,hget _ _ (G4 _)⟩⟩⟩;exact⟨_,l3.le _ _ (l2.le _ _ (l1.le _ _ (show ρG w 6 g=some ⟨g,0,qR w g⟩ from if_pos hg)))⟩
end
end Go.Ev
