/- Part of the proof: an evaluator of the model's code, rules for walks on it, walks. Without conditions. -/
import Derived.Test.YtpomgjnfncgkgaaGreatDoorEg
set_option linter.unusedSectionVars false
set_option linter.unusedVariables false
set_option linter.unusedSimpArgs false
noncomputable section
namespace Go.Ev
variable [Env]
open Go.Proofs
set_option maxRecDepth 100000
set_option maxHeartbeats 8000000
def JK (f:Nat) (args:List V):Option V:=bif Nat.beq f 18 then(match args with | []=>some (.bool true) | _=>none) else none
def GC:Cx:=⟨6,Fl,IJ,JK,mJ,[],fun _ _ _=>none,fun _ _ _=>none⟩
theorem Po:AQ Tryz.prog GC:=by
 refine⟨Oh,fun f args v h=>?_,(fun e h=>by cases h),(fun f a s v h=>by cases h)⟩;have h:JK f args=some v:=h;show EO Tryz.prog 6 mJ f args v;unfold JK at h;cases u:Nat.beq f 18 with
 | true=>
  rw[u] at h;simp only[cond_true] at h;cases args with
  | nil=>cases h;rw[nB u];exact K9
  | cons _ _=>cases h
 | false=>
  rw[u] at h;cases h
theorem Ll:Plain GC:=⟨fun _ _ _=>Z,fun f a h=>by
 show JK f a=none
 have:Nat.beq f 18=false:=by
  unfold DY at h;cases h2:Nat.beq f 18 with
  | false=>rfl
  | true=>rw[h2,Bool.or_true] at h;cases h
 unfold JK;rw[this];rfl,Z,fun _ _ _=>Z,fun f h=>h⟩
theorem qP {gl:Nat} {U:D} {g:Nat} {c:List V} {r:List (Nat×List V)} {e:TypeId} (h1:Nat.ble (Nat.succ g) gl=true) (h2:eH c=true) (u:kS c c=true) (h4:U.m.get g=some (.row c e true)) (h5:nD gl U r=true):nD gl U ((g,c)::r)=true:=by
 show(bif Nat.ble (Nat.succ g) gl then(match U.m.get g with
  | some (.row cells _ true)=>bif eH c then(bif kS cells c then nD gl U r else false) else false
  | _=>false) else false)=true
 rw[h4,h1];dsimp only;rw[h2,u,h5];rfl
structure AS (K:KP):Prop where
 h0:∃e,K (posOf 0) (.row tH e true)
 h1:∃e,K (posOf 1) (.row fM e true)
 h4:∃e,K (posOf 4) (.row zG e true)
 h5:∃e,K (posOf 5) (.row zH e true)
theorem AS.laid {K:KP} (h:AS K) (U:D) (L:Own) (aq:J U K L):nD GC.gl U GC.laid=true:=by
 obtain⟨⟨e0,h0⟩,⟨e1,h1⟩,⟨e4,h4⟩,⟨e5,h5⟩⟩:=h;exact qP (gl:=6) (by decide) Y Y (aq.fq h0)<|qP (by decide) Y Y (aq.fq h1)<|qP (by decide) Y Y (aq.fq h4)<|qP (by decide) Y Y (aq.fq h5) Z
theorem AS.sh {K:KP} (h:AS K):rh GC K:=by
 obtain⟨e,h0⟩:=h.h0;have e1:As=tH:=by kernel_rfl
 exact⟨by decide,e,true,by rw[e1];exact h0⟩
theorem MR (E:Nat->TypeId):(UG 6 mJ E).m.get (posOf 0)=some (.row tH (E 0) true):=rfl
theorem MS (E:Nat->TypeId):(UG 6 mJ E).m.get (posOf 1)=some (.row fM (E 1) true):=rfl
theorem MT (E:Nat->TypeId):(UG 6 mJ E).m.get (posOf 4)=some (.row zG (E 4) true):=rfl
theorem MU (E:Nat->TypeId):(UG 6 mJ E).m.get (posOf 5)=some (.row zH (E 5) true):=rfl
section
variable {H_:Type} {enc:TypeId×Value->H_} {w:World}
theorem IP (ho:HG w) (L:6<=w.heap.size) (hl:∀x∈mJ,lB w x) {F:Nat} {q0 q1:List Value} {z A:DataW H_×List MemPlace}
  (M:DataW.trod enc Tryz.prog w 0 (fun _=>true) true (F+6) 27 q0=some z) (X:DataW.trod enc Tryz.prog w 0 (fun _=>true) true (F+6) 44 q1=some A):
  ∃(S:dh) (U:D) (K m a b c d:V),Inv S U w/\ld U/\GR S GC/\dp S [K] q0/\dp S [m,a,b,c,d] q1/\bR (sw U) 2 (mY (sw U) (F+1)) ((eO z.1).map<|CH (F+1)) K/\bR (sw U) 1 dy ((eO<|cF A.1 0).map m3) m/\eN (sw U) (Nr<|cF A.1 1) a b c d/\(∀c∈(eO z.1).map (CH (F+1)),mn (F+1) c)/\AS (sw U):=by
 have hw:∃(r:Nat) (c:Array Value) (e:TypeId) (fr:Nat×Nat),w.heap[r]?=some (Obj.cells c e fr):=by
  obtain⟨c,e,fr,h,_⟩:=hl (0,tH) (.head _);exact⟨0,c,e,fr,h⟩
 have hi0:=N6 ho L P6 hl
 have Q:ld (UG 6 mJ<|elemAt w):=fun b o h=>by
  obtain⟨x,_,_,rfl⟩:=UG_get h;rfl
 obtain⟨ρ1,R,C,i1,r1,l1,d0,v0⟩:=lay hw (F+6) 27 q0 z.1 z.2 M _ _ hi0 Q;obtain⟨ρ2,E,aa,i2,r2,l2,d1,v1⟩:=lay hw (F+6) 44 q1 A.1 A.2 X _ _ i1 r1;have n1:∀(b:Nat) (o:cG),R.m.get b=some o->b<R.next:=fun b o h=>dz.fresh i1 h
 have W:∀(b:Nat) (o:cG),E.m.get b=some o->b<E.next:=fun b o h=>dz.fresh i2 h
 have G:KP.le (sw R) (sw E):=fun b o h=>⟨W b o<|l2.get b o h.2,l2.get b o h.2⟩
 have hf:=Gx n1 (F+1) z.1 C (ng _ _ _ _ z.2 M) d0;obtain⟨K,rfl,s0⟩:=IB n1 (F+1) z.1 C (ng _ _ _ _ z.2 M) d0;obtain⟨m,a,b,c,d,rfl,s1,s2⟩:=GG W (ng _ _ _ _ A.2 X) d1;have u:∀(b:Nat) (o:cG),(UG 6 mJ<|elemAt w).m.get b=some o->sw E b o:=fun b o h=>⟨W b o<|l2.get b o<|l1.get b o h,l2.get b o<|l1.get b o h⟩
 refine⟨ρ2,E,K,m,a,b,c,d,i2,r2,fun g hg=>?_,v0.mono l2.le,v1,s0.mono G fun _ _ h=>h.mono G,s1,s2,hf,⟨⟨_,u _ _<|MR _⟩,⟨_,u _ _<|MS _⟩,⟨_,u _ _<|MT _⟩,⟨_,u _ _<|MU _⟩⟩⟩;exact⟨_,l2.le _ _<|l1.le _ _ (show SG w 6 g=some ⟨g,0,ue w g⟩ from if_pos hg)⟩
end
end Go.Ev
end
