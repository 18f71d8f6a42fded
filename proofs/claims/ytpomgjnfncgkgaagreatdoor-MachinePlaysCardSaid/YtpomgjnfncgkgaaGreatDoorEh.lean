/- Part of the proof: an evaluator of the model's code, rules for walks on it, walks. Without conditions. -/
import Derived.Test.YtpomgjnfncgkgaaGreatDoorEg
set_option linter.unusedSectionVars false
set_option linter.unusedVariables false
set_option linter.unusedSimpArgs false
noncomputable section
namespace Go.Ev
variable [Env]
open Go.Proofs
set_option maxRecDepth 100000
set_option maxHeartbeats 8000000
def KK (f:Nat) (args:List V):Option V:=bif Nat.beq f 18 then(match args with | []=>some (.bool true) | _=>none) else none
def GC:Cx:=⟨6,Gs,JQ,KK,mY,[],fun _ _ _=>none,fun _ _ _=>none⟩
theorem Qu:B0 Tryz.prog GC:=by
 refine⟨Pq,fun f args v h=>?_,(fun e h=>by cases h),(fun f a s v h=>by cases h)⟩;have h:KK f args=some v:=h;show FY Tryz.prog 6 mY f args v;unfold KK at h;cases u:Nat.beq f 18 with
 | true=>
  rw[u] at h;simp only[cond_true] at h;cases args with
  | nil=>cases h;rw[nB u];exact Mt
  | cons _ _=>cases h
 | false=>
  rw[u] at h;cases h
theorem MF:Plain GC:=⟨fun _ _ _=>Z,fun f a h=>by
 show KK f a=none
 have:Nat.beq f 18=false:=by
  unfold Fc at h;cases u:Nat.beq f 18 with
  | false=>rfl
  | true=>rw[u,Bool.or_true] at h;cases h
 unfold KK;rw[this];rfl,Z,fun _ _ _=>Z,fun f h=>h⟩
theorem rz {gl:Nat} {U:I} {g:Nat} {c:List V} {r:List (Nat×List V)} {e:TypeId} (h1:Nat.ble (Nat.succ g) gl=true) (u:eO c=true) (z:lk c c=true) (h4:U.m.get g=some (.row c e true)) (h5:nY gl U r=true):nY gl U ((g,c)::r)=true:=by
 show(bif Nat.ble (Nat.succ g) gl then(match U.m.get g with
  | some (.row cells _ true)=>bif eO c then(bif lk cells c then nY gl U r else false) else false
  | _=>false) else false)=true
 rw[h4,h1];dsimp only;rw[u,z,h5];rfl
structure B1 (K:H):Prop where
 h0:∃e,K (posOf 0) (.row uj e true)
 h1:∃e,K (posOf 1) (.row fY e true)
 h4:∃e,K (posOf 4) (.row AG e true)
 h5:∃e,K (posOf 5) (.row AH e true)
theorem B1.laid {K:H} (h:B1 K) (U:I) (L:Own) (aq:J U K L):nY GC.gl U GC.laid=true:=by
 obtain⟨⟨e0,h0⟩,⟨e1,h1⟩,⟨e4,h4⟩,⟨e5,h5⟩⟩:=h;exact rz (gl:=6) (by decide) Y Y (aq.fx h0)<|rz (by decide) Y Y (aq.fx h1)<|rz (by decide) Y Y (aq.fx h4)<|rz (by decide) Y Y (aq.fx h5) Z
theorem B1.sh {K:H} (h:B1 K):mK GC K:=by
 obtain⟨e,h0⟩:=h.h0;have e1:BA=uj:=by kernel_rfl
 exact⟨by decide,e,true,by rw[e1];exact h0⟩
theorem N6 (E:Nat->TypeId):(UG 6 mY E).m.get (posOf 0)=some (.row uj (E 0) true):=rfl
theorem N7 (E:Nat->TypeId):(UG 6 mY E).m.get (posOf 1)=some (.row fY (E 1) true):=rfl
theorem N8 (E:Nat->TypeId):(UG 6 mY E).m.get (posOf 4)=some (.row AG (E 4) true):=rfl
theorem N9 (E:Nat->TypeId):(UG 6 mY E).m.get (posOf 5)=some (.row AH (E 5) true):=rfl
section
variable {H_:Type} {enc:TypeId×Value->H_} {w:World}
end
section
variable {H_:Type} {enc:TypeId×Value->H_} {w:World}
theorem HW (ho:IP w) (X:6<=w.heap.size) (hl:∀x∈mY,lO w x) {F:Nat} {q0 q1 q2:List Value} {E z G:DataW H_×List MemPlace}
  (t0:DataW.trod enc Tryz.prog w 0 (fun _=>true) true (F+6) 22 q0=some E) (t1:DataW.trod enc Tryz.prog w 0 (fun _=>true) true (F+6) 27 q1=some z) (t2:DataW.trod enc Tryz.prog w 0 (fun _=>true) true (F+6) 34 q2=some G):
  ∃(S:dg) (U:I) (M Q R:V),Inv S U w/\lB U/\GR S GC/\dt S [M] q0/\dt S [Q] q1/\dt S [R] q2/\bJ (wz U) 1 cz ((jf E.1).map tC) M/\bJ (wz U) 2 (jc (wz U) (F+1)) ((jf z.1).map<|DH (F+1)) Q/\bJ (wz U) 1 cz ((jf G.1).map tC) R/\(∀c∈(jf z.1).map (DH (F+1)),lC (F+1) c)/\B1 (wz U):=by
 have hw:∃(r:Nat) (c:Array Value) (e:TypeId) (fr:Nat×Nat),w.heap[r]?=some (Obj.cells c e fr):=by
  obtain⟨c,e,fr,h,_⟩:=hl (0,uj) (.head _);exact⟨0,c,e,fr,h⟩
 have hi0:=Pd ho X Rb hl
 have aa:lB (UG 6 mY<|elemAt w):=fun b o h=>by
  obtain⟨x,_,_,rfl⟩:=UG_get h;rfl
 obtain⟨ρ1,σ1,ac,i1,r1,l1,d0,v0⟩:=lay hw (F+6) 22 q0 E.1 E.2 t0 _ _ hi0 aa;obtain⟨ρ2,W,K,i2,r2,l2,d1,v1⟩:=lay hw (F+6) 27 q1 z.1 z.2 t1 _ _ i1 r1;obtain⟨S3,L,ae,i3,r3,A,d2,v2⟩:=lay hw (F+6) 34 q2 G.1 G.2 t2 _ _ i2 r2;have n1:∀(b:Nat) (o:cM),σ1.m.get b=some o->b<σ1.next:=fun b o h=>dY.fresh i1 h
 have n2:∀(b:Nat) (o:cM),W.m.get b=some o->b<W.next:=fun b o h=>dY.fresh i2 h
 have n3:∀(b:Nat) (o:cM),L.m.get b=some o->b<L.next:=fun b o h=>dY.fresh i3 h
 have ab:H.le (wz σ1) (wz W):=fun b o h=>⟨n2 b o<|l2.get b o h.2,l2.get b o h.2⟩
 have C:H.le (wz W) (wz L):=fun b o h=>⟨n3 b o<|A.get b o h.2,A.get b o h.2⟩
 have c2:Tryz.prog.cellsOf 2=1:=by kernel_rfl
 have c3:Tryz.prog.cellsOf 3=1:=by kernel_rfl
 obtain⟨M,rfl,s0⟩:=jy (m:=1) tC cz Tryz.underlying22 c2 (by decide) n1 (lJ _ _ _ _ E.2 t0) d0 fun x vs hf hd=>(nX Tryz.underlying2 hf hd).1
 have hf:=HJ n2 (F+1) z.1 K (lJ _ _ _ _ z.2 t1) d1;obtain⟨Q,rfl,s1⟩:=JI n2 (F+1) z.1 K (lJ _ _ _ _ z.2 t1) d1;obtain⟨R,rfl,s2⟩:=jy (m:=1) tC cz Tryz.underlying34 c3 (by decide) n3 (lJ _ _ _ _ G.2 t2) d2 fun x vs hf hd=>(nX Tryz.underlying3 hf hd).1
 have u:∀(b:Nat) (o:cM),(UG 6 mY<|elemAt w).m.get b=some o->wz L b o:=fun b o h=>⟨n3 b o<|A.get b o<|l2.get b o<|l1.get b o h,A.get b o<|l2.get b o<|l1.get b o h⟩
 refine⟨S3,L,M,Q,R,i3,r3,fun g hg=>?_,v0.mono<|dg.le_trans l2.le A.le,v1.mono A.le,v2,(s0.mono ab fun _ _ h=>h).mono C fun _ _ h=>h,s1.mono C fun _ _ h=>h.mono C,s2,hf,⟨⟨_,u _ _<|N6 _⟩,⟨_,u _ _<|N7 _⟩,⟨_,u _ _<|N8 _⟩,⟨_,u _ _<|N9 _⟩⟩⟩;exact⟨_,A.le _ _<|l2.le _ _<|l1.le _ _ (show SG w 6 g=some ⟨g,0,yw w g⟩ from if_pos hg)⟩
end
end Go.Ev
end
