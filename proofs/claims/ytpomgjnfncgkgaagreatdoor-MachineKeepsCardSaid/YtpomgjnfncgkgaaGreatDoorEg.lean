/- Part of the proof: an evaluator of the model's code, rules for walks on it, walks. Without conditions. -/
import Derived.Test.YtpomgjnfncgkgaaGreatDoorEf
set_option linter.unusedSectionVars false
set_option linter.unusedVariables false
set_option linter.unusedSimpArgs false
noncomputable section
namespace Go.Ev
variable [Env]
open Go.Proofs
set_option maxRecDepth 100000
set_option maxHeartbeats 8000000
def J3 (f:Nat) (args:List V):Option V:=bif Nat.beq f 18 then(match args with | []=>some (.bool true) | _=>none) else none
def GC:Cx:=⟨6,FN,IX,J3,mj,[],fun _ _ _=>none,fun _ _ _=>none⟩
theorem Qb:Bi Tryz.prog GC:=by
 refine⟨OZ,fun f args v h=>?_,(fun e h=>by cases h),(fun f a s v h=>by cases h)⟩;have h:J3 f args=some v:=h;show Ff Tryz.prog 6 mj f args v;unfold J3 at h;cases b:Nat.beq f 18 with
 | true=>
  rw[b] at h;simp only[cond_true] at h;cases args with
  | nil=>cases h;rw[nB b];exact Lr
  | cons _ _=>cases h
 | false=>
  rw[b] at h;cases h
theorem LH:Plain GC:=⟨fun _ _ _=>Z,fun f a h=>by
 show J3 f a=none
 have:Nat.beq f 18=false:=by
  unfold Ej at h;cases b:Nat.beq f 18 with
  | false=>rfl
  | true=>rw[b,Bool.or_true] at h;cases h
 unfold J3;rw[this];rfl,Z,fun _ _ _=>Z,fun f h=>h⟩
theorem qC {gl:Nat} {O:N} {g:Nat} {c:List V} {r:List (Nat×List V)} {e:TypeId} (h1:Nat.ble (Nat.succ g) gl=true) (b:eL c=true) (h3:kA c c=true) (h4:O.m.get g=some (.row c e true)) (h5:ng gl O r=true):ng gl O ((g,c)::r)=true:=by
 show(bif Nat.ble (Nat.succ g) gl then(match O.m.get g with
  | some (.row cells _ true)=>bif eL c then(bif kA cells c then ng gl O r else false) else false
  | _=>false) else false)=true
 rw[h4,h1];dsimp only;rw[b,h3,h5];rfl
structure Bk (K:KP):Prop where
 h0:∃e,K (posOf 0) (.row tJ e true)
 h1:∃e,K (posOf 1) (.row fJ e true)
 h4:∃e,K (posOf 4) (.row zL e true)
 h5:∃e,K (posOf 5) (.row zM e true)
theorem Bk.laid {K:KP} (h:Bk K) (O:N) (L:Own) (ar:D O K L):ng GC.gl O GC.laid=true:=by
 obtain⟨⟨e0,h0⟩,⟨e1,h1⟩,⟨e4,h4⟩,⟨e5,h5⟩⟩:=h;exact qC (gl:=6) (by decide) U U (ar.da h0)<|qC (by decide) U U (ar.da h1)<|qC (by decide) U U (ar.da h4)<|qC (by decide) U U (ar.da h5) Z
theorem Bk.sh {K:KP} (h:Bk K):mF GC K:=by
 obtain⟨e,h0⟩:=h.h0;have e1:AI=tJ:=by kernel_rfl
 exact⟨by decide,e,true,by rw[e1];exact h0⟩
theorem Ng (E:Nat->TypeId):(σG 6 mj E).m.get (posOf 0)=some (.row tJ (E 0) true):=rfl
theorem Nh (E:Nat->TypeId):(σG 6 mj E).m.get (posOf 1)=some (.row fJ (E 1) true):=rfl
theorem Ni (E:Nat->TypeId):(σG 6 mj E).m.get (posOf 4)=some (.row zL (E 4) true):=rfl
theorem Nj (E:Nat->TypeId):(σG 6 mj E).m.get (posOf 5)=some (.row zM (E 5) true):=rfl
section
variable {H_:Type} {enc:TypeId×Value->H_} {w:World}
theorem I4 (ho:HX w) (Q:6<=w.heap.size) (hl:∀x∈mj,kV w x) {F:Nat} {q0 q1 q2:List Value} {A z B:DataW H_×List MemPlace}
  (t0:DataW.trod enc Tryz.prog w 0 (fun _=>true) true (F+5) 22 q0=some A) (t1:DataW.trod enc Tryz.prog w 0 (fun _=>true) true (F+5) 27 q1=some z) (t2:DataW.trod enc Tryz.prog w 0 (fun _=>true) true (F+5) 34 q2=some B):
  ∃(I:dg) (O:N) (E K L:V),Inv I O w/\kH O/\GR I GC/\dA I [E] q0/\dA I [K] q1/\dA I [L] q2/\bF (vO O) 1 ek ((jq A.1).map sW) E/\bF (vO O) 2 (lr (vO O) F) ((jq z.1).map<|LZ F) K/\bF (vO O) 1 ek ((jq B.1).map sW) L/\Bk (vO O):=by
 have hw:∃(r:Nat) (c:Array Value) (e:TypeId) (fr:Nat×Nat),w.heap[r]?=some (Obj.cells c e fr):=by
  obtain⟨c,e,fr,h,_⟩:=hl (0,tJ) (.head _);exact⟨0,c,e,fr,h⟩
 have hi0:=OJ ho Q Q4 hl
 have R:kH (σG 6 mj<|elemAt w):=fun b o h=>by
  obtain⟨x,_,_,rfl⟩:=OG_get h;rfl
 obtain⟨ρ1,S,aa,i1,r1,l1,d0,v0⟩:=lay hw (F+5) 22 q0 A.1 A.2 t0 _ _ hi0 R;obtain⟨ρ2,M,T,i2,r2,l2,d1,v1⟩:=lay hw (F+5) 27 q1 z.1 z.2 t1 _ _ i1 r1;obtain⟨ρ3,C,ab,i3,r3,l3,d2,v2⟩:=lay hw (F+5) 34 q2 B.1 B.2 t2 _ _ i2 r2;have n1:∀(b:Nat) (o:cN),S.m.get b=some o->b<S.next:=fun b o h=>eA.fresh i1 h
 have n2:∀(b:Nat) (o:cN),M.m.get b=some o->b<M.next:=fun b o h=>eA.fresh i2 h
 have W:∀(b:Nat) (o:cN),C.m.get b=some o->b<C.next:=fun b o h=>eA.fresh i3 h
 have X:KP.le (vO S) (vO M):=fun b o h=>⟨n2 b o<|l2.get b o h.2,l2.get b o h.2⟩
 have u:KP.le (vO M) (vO C):=fun b o h=>⟨W b o<|l3.get b o h.2,l3.get b o h.2⟩
 have c2:Tryz.prog.cellsOf 2=1:=by kernel_rfl
 have c3:Tryz.prog.cellsOf 3=1:=by kernel_rfl
 obtain⟨E,rfl,s0⟩:=nM (m:=1) sW ek Tryz.underlying22 c2 (by decide) n1 (mR _ _ _ _ A.2 t0) d0 fun x vs hf hd=>(nf Tryz.underlying2 hf hd).1
 obtain⟨K,rfl,s1⟩:=IN n2 F z.1 T (mR _ _ _ _ z.2 t1) d1;obtain⟨L,rfl,s2⟩:=nM (m:=1) sW ek Tryz.underlying34 c3 (by decide) W (mR _ _ _ _ B.2 t2) d2 fun x vs hf hd=>(nf Tryz.underlying3 hf hd).1
 have d:∀(b:Nat) (o:cN),(σG 6 mj<|elemAt w).m.get b=some o->vO C b o:=fun b o h=>⟨W b o<|l3.get b o<|l2.get b o<|l1.get b o h,l3.get b o<|l2.get b o<|l1.get b o h⟩
 refine⟨ρ3,C,E,K,L,i3,r3,fun g hg=>?_,v0.mono<|dg.le_trans l2.le l3.le,v1.mono l3.le,v2,(s0.mono X fun _ _ h=>h).mono u fun _ _ h=>h,s1.mono u fun _ _ h=>h.mono u,s2,⟨⟨_,d _ _<|Ng _⟩,⟨_,d _ _<|Nh _⟩,⟨_,d _ _<|Ni _⟩,⟨_,d _ _<|Nj _⟩⟩⟩;exact⟨_,l3.le _ _<|l2.le _ _<|l1.le _ _ (show ρG w 6 g=some ⟨g,0,xA w g⟩ from if_pos hg)⟩
end
end Go.Ev
end
