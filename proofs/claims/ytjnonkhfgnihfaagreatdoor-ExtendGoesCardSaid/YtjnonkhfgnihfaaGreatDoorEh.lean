/- Part of the proof: rules and walks. No conditions. -/
import Derived.Test.YtjnonkhfgnihfaaGreatDoorEg
set_option linter.unusedSectionVars false
set_option linter.unusedVariables false
set_option linter.unusedSimpArgs false
noncomputable section
namespace Go.Ev
variable [Env]
open Go.Proofs
set_option maxRecDepth 100000
set_option maxHeartbeats 8000000
def NY (f:Nat) (args:List U):Option U:=bif Nat.beq f 7 then(match args with | []=>some (.bool true) | _=>none) else none
def GC:Cx:=⟨6,Mm,Ml,NY,nk,[],fun _ _ _=>none,fun _ _ _=>none⟩
theorem Vh:DB Tryz.prog GC:=by
 refine⟨TK,fun f args v h=>?_,(fun e h=>by cases h),(fun f a s v h=>by cases h)⟩;have h:NY f args=some v:=h;show HO Tryz.prog 6 nk f args v;unfold NY at h;cases d:Nat.beq f 7 with
 | true=>
  rw[d] at h;simp only[cond_true] at h;cases args with
  | nil=>cases h;rw[nB d];exact R9
  | cons _ _=>cases h
 | false=>
  rw[d] at h;cases h
theorem Qf:Plain GC:=⟨fun _ _ _=>Z,fun f a h=>by
 show NY f a=none
 have:Nat.beq f 7=false:=by
  unfold GV at h;cases d:Nat.beq f 7 with
  | false=>rfl
  | true=>rw[d] at h;cases h
 unfold NY;rw[this];rfl,Z,fun _ _ _=>Z,fun f h=>h⟩
theorem sf {gl:Nat} {V:aF} {g:Nat} {c:List U} {r:List (Nat×List U)} {e:y_} (h1:Nat.ble (Nat.succ g) gl=true) (d:fl c=true) (h3:lJ c c=true) (h4:V.m.get g=some (.row c e true)) (h5:oD gl V r=true):oD gl V ((g,c)::r)=true:=by
 show(bif Nat.ble (Nat.succ g) gl then(match V.m.get g with
  | some (.row cells _ true)=>bif fl c then(bif lJ cells c then oD gl V r else false) else false
  | _=>false) else false)=true
 rw[h4,h1];dsimp only;rw[d,h3,h5];rfl
structure DC (K:KP):Prop where
 h0:∃e,K (posOf 0) (.row vO e true)
 h1:∃e,K (posOf 1) (.row gd e true)
 h4:∃e,K (posOf 4) (.row Cn e true)
 h5:∃e,K (posOf 5) (.row Co e true)
theorem DC.laid {K:KP} (h:DC K) (V:aF) (L:Own) (O:F V K L):oD GC.gl V GC.laid=true:=by
 obtain⟨⟨e0,h0⟩,⟨e1,h1⟩,⟨e4,h4⟩,⟨e5,h5⟩⟩:=h;exact sf (gl:=6) (by decide) Y Y (O.bY h0)<|sf (by decide) Y Y (O.bY h1)<|sf (by decide) Y Y (O.bY h4)<|sf (by decide) Y Y (O.bY h5) Z
theorem DC.sh {K:KP} (h:DC K):pJ GC K:=by
 obtain⟨e,h0⟩:=h.h0;have e1:De=vO:=by kernel_rfl
 exact⟨by decide,e,true,by rw[e1];exact h0⟩
theorem R2 (E:Nat->y_):(σG 6 nk E).m.get (posOf 0)=some (.row vO (E 0) true):=rfl
theorem R3 (E:Nat->y_):(σG 6 nk E).m.get (posOf 1)=some (.row gd (E 1) true):=rfl
theorem R4 (E:Nat->y_):(σG 6 nk E).m.get (posOf 4)=some (.row Cn (E 4) true):=rfl
theorem R5 (E:Nat->y_):(σG 6 nk E).m.get (posOf 5)=some (.row Co (E 5) true):=rfl
section
variable {H_:Type} {enc:y_×j_->H_} {w:x_}
theorem JO (ho:KV w) (Q:6<=w.heap.size) (hl:∀x∈nk,ma w x) {F_:Nat} {q0 q1 q2:List j_} {A z B:w_ H_×List MemPlace}
  (t0:DataW.trod enc Tryz.prog w 0 (fun _=>true) true (F_+6) 23 q0=some A) (t1:DataW.trod enc Tryz.prog w 0 (fun _=>true) true (F_+6) 22 q1=some z) (t2:DataW.trod enc Tryz.prog w 0 (fun _=>true) true (F_+6) 40 q2=some B):
  ∃(D:dD) (V:aF) (E K L:U),Inv D V w/\lQ V/\GR D GC/\dN D [E] q0/\dN D [K] q1/\dN D [L] q2/\bS (xW V) 1 g9 ((kD A.1).map uS) E/\bS (xW V) 2 (pK (xW V) (F_+1)) ((kD z.1).map<|QC (F_+1)) K/\bS (xW V) 1 g9 ((kD B.1).map uS) L/\DC (xW V):=by
 have hw:∃(r:Nat) (c:Array j_) (e:y_) (fr:Nat×Nat),w.heap[r]? =some (Obj.cells c e fr):=by
  obtain⟨c,e,fr,h,_⟩:=hl (0,vO) (.head _);exact⟨0,c,e,fr,h⟩
 have hi0:=Tv ho Q Wf hl
 have R:lQ (σG 6 nk<|elemAt w):=fun b o h=>by
  obtain⟨x,_,_,rfl⟩:=VG_get h;rfl
 obtain⟨ρ1,S,aa,i1,r1,l1,d0,v0⟩:=lay hw (F_+6) 23 q0 A.1 A.2 t0 _ _ hi0 R;obtain⟨ρ2,M,T,i2,r2,l2,d1,v1⟩:=lay hw (F_+6) 22 q1 z.1 z.2 t1 _ _ i1 r1;obtain⟨ρ3,C,ab,i3,r3,l3,d2,v2⟩:=lay hw (F_+6) 40 q2 B.1 B.2 t2 _ _ i2 r2;have n1:∀(b:Nat) (o:cU),S.m.get b=some o->b<S.next:=fun b o h=>fc.fresh i1 h
 have n2:∀(b:Nat) (o:cU),M.m.get b=some o->b<M.next:=fun b o h=>fc.fresh i2 h
 have W:∀(b:Nat) (o:cU),C.m.get b=some o->b<C.next:=fun b o h=>fc.fresh i3 h
 have X:KP.le (xW S) (xW M):=fun b o h=>⟨n2 b o<|l2.get b o h.2,l2.get b o h.2⟩
 have u:KP.le (xW M) (xW C):=fun b o h=>⟨W b o<|l3.get b o h.2,l3.get b o h.2⟩
 have c2:Tryz.prog.cellsOf 2=1:=by kernel_rfl
 have c3:Tryz.prog.cellsOf 3=1:=by kernel_rfl
 obtain⟨E,rfl,s0⟩:=pB (m:=1) uS g9 Tryz.underlying23 c2 (by decide) n1 (nY _ _ _ _ A.2 t0) d0 fun x vs hf hd=>(oC Tryz.underlying2 hf hd).1
 obtain⟨K,rfl,s1⟩:=L7 n2 (F_+1) z.1 T (nY _ _ _ _ z.2 t1) d1;obtain⟨L,rfl,s2⟩:=pB (m:=1) uS g9 Tryz.underlying40 c3 (by decide) W (nY _ _ _ _ B.2 t2) d2 fun x vs hf hd=>(oC Tryz.underlying3 hf hd).1
 have d:∀(b:Nat) (o:cU),(σG 6 nk<|elemAt w).m.get b=some o->xW C b o:=fun b o h=>⟨W b o<|l3.get b o<|l2.get b o<|l1.get b o h,l3.get b o<|l2.get b o<|l1.get b o h⟩
 refine⟨ρ3,C,E,K,L,i3,r3,fun g hg=>?_,v0.mono<|dD.le_trans l2.le l3.le,v1.mono l3.le,v2,(s0.mono X fun _ _ h=>h).mono u fun _ _ h=>h,s1.mono u fun _ _ h=>h.mono u,s2,⟨⟨_,d _ _<|R2 _⟩,⟨_,d _ _<|R3 _⟩,⟨_,d _ _<|R4 _⟩,⟨_,d _ _<|R5 _⟩⟩⟩;exact⟨_,l3.le _ _<|l2.le _ _<|l1.le _ _ (show ρG w 6 g=some ⟨g,0,zY w g⟩ from if_pos hg)⟩
end
end Go.Ev
end
