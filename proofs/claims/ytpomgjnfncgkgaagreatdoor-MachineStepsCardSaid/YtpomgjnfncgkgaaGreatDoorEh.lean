/- Part of the proof: an evaluator of the model's code, rules for walks on it, walks. Without conditions. -/
import Derived.Test.YtpomgjnfncgkgaaGreatDoorEg
set_option linter.unusedSectionVars false
set_option linter.unusedVariables false
set_option linter.unusedSimpArgs false
noncomputable section
namespace Go.Ev
variable [Env]
open Go.Proofs
set_option maxRecDepth 100000
set_option maxHeartbeats 8000000
def JK (f:Nat) (args:List V):Option V:=bif Nat.beq f 18 then(match args with | []=>some (.bool true) | _=>none) else none
def GC:Cx:=⟨6,Fl,IJ,JK,mJ,[],fun _ _ _=>none,fun _ _ _=>none⟩
theorem Po:AQ Tryz.prog GC:=by
 refine⟨Oh,fun f args v h=>?_,(fun e h=>by cases h),(fun f a s v h=>by cases h)⟩;have h:JK f args=some v:=h;show EO Tryz.prog 6 mJ f args v;unfold JK at h;cases b:Nat.beq f 18 with
 | true=>
  rw[b] at h;simp only[cond_true] at h;cases args with
  | nil=>cases h;rw[nB b];exact K9
  | cons _ _=>cases h
 | false=>
  rw[b] at h;cases h
theorem Ll:Plain GC:=⟨fun _ _ _=>Z,fun f a h=>by
 show JK f a=none
 have:Nat.beq f 18=false:=by
  unfold DY at h;cases b:Nat.beq f 18 with
  | false=>rfl
  | true=>rw[b,Bool.or_true] at h;cases h
 unfold JK;rw[this];rfl,Z,fun _ _ _=>Z,fun f h=>h⟩
theorem qP {gl:Nat} {U:D} {g:Nat} {c:List V} {r:List (Nat×List V)} {e:TypeId} (a:Nat.ble (Nat.succ g) gl=true) (b:eH c=true) (d:kS c c=true) (f:U.m.get g=some (.row c e true)) (h:nD gl U r=true):nD gl U ((g,c)::r)=true:=by
 show(bif Nat.ble (Nat.succ g) gl then(match U.m.get g with
  | some (.row cells _ true)=>bif eH c then(bif kS cells c then nD gl U r else false) else false
  | _=>false) else false)=true
 rw[f,a];dsimp only;rw[b,d,h];rfl
structure AS (K:KP):Prop where
 h0:∃e,K (posOf 0) (.row tH e true)
 h1:∃e,K (posOf 1) (.row fM e true)
 h4:∃e,K (posOf 4) (.row zG e true)
 h5:∃e,K (posOf 5) (.row zH e true)
theorem AS.laid {K:KP} (h:AS K) (U:D) (L:Own) (aq:J U K L):nD GC.gl U GC.laid=true:=by
 obtain⟨⟨e0,a⟩,⟨e1,b⟩,⟨e4,c⟩,⟨e5,d⟩⟩:=h;exact qP (gl:=6) (by decide) Y Y (aq.fq a)<|qP (by decide) Y Y (aq.fq b)<|qP (by decide) Y Y (aq.fq c)<|qP (by decide) Y Y (aq.fq d) Z
theorem AS.sh {K:KP} (h:AS K):rh GC K:=by
 obtain⟨e,a⟩:=h.h0;have b:As=tH:=by kernel_rfl
 exact⟨by decide,e,true,by rw[b];exact a⟩
theorem MR (E:Nat->TypeId):(UG 6 mJ E).m.get (posOf 0)=some (.row tH (E 0) true):=rfl
theorem MS (E:Nat->TypeId):(UG 6 mJ E).m.get (posOf 1)=some (.row fM (E 1) true):=rfl
theorem MT (E:Nat->TypeId):(UG 6 mJ E).m.get (posOf 4)=some (.row zG (E 4) true):=rfl
theorem MU (E:Nat->TypeId):(UG 6 mJ E).m.get (posOf 5)=some (.row zH (E 5) true):=rfl
section
variable {H_:Type} {enc:TypeId×Value->H_} {w:World}
theorem IP (G:HG w) (q:6<=w.heap.size) (y:∀x∈mJ,lB w x) {F:Nat} {q0 q1:List Value} {i j:DataW H_×List MemPlace}
  (s:DataW.trod enc Tryz.prog w 0 (fun _=>true) true (F+6) 27 q0=some i) (z:DataW.trod enc Tryz.prog w 0 (fun _=>true) true (F+6) 44 q1=some j):
  ∃(S:dh) (U:D) (p m a b c d:V),Inv S U w/\ld U/\GR S GC/\dp S [p] q0/\dp S [m,a,b,c,d] q1/\bR (sw U) 2 (mY (sw U) (F+1)) ((eO i.1).map<|CH (F+1)) p/\bR (sw U) 1 dy ((eO<|cF j.1 0).map m3) m/\eN (sw U) (Nr<|cF j.1 1) a b c d/\(∀c∈(eO i.1).map (CH (F+1)),mn (F+1) c)/\AS (sw U):=by
 have hw:∃(r:Nat) (c:Array Value) (e:TypeId) (fr:Nat×Nat),w.heap[r]?=some (Obj.cells c e fr):=by
  obtain⟨c,e,fr,h,_⟩:=y (0,tH) (.head _);exact⟨0,c,e,fr,h⟩
 have hi0:=N6 G q P6 y
 have t:ld (UG 6 mJ<|elemAt w):=fun b o h=>by
  obtain⟨x,_,_,rfl⟩:=UG_get h;rfl
 obtain⟨ρ1,u,k,A,K,l1,C,L⟩:=lay hw (F+6) 27 q0 i.1 i.2 s _ _ hi0 t;obtain⟨M,l,aa,E,P,l2,Q,R⟩:=lay hw (F+6) 44 q1 j.1 j.2 z _ _ A K;have n1:∀(b:Nat) (o:cG),u.m.get b=some o->b<u.next:=fun b o h=>dz.fresh A h
 have v:∀(b:Nat) (o:cG),l.m.get b=some o->b<l.next:=fun b o h=>dz.fresh E h
 have n:KP.le (sw u) (sw l):=fun b o h=>⟨v b o<|l2.get b o h.2,l2.get b o h.2⟩
 have hf:=Gx n1 (F+1) i.1 k (ng _ _ _ _ i.2 s) C;obtain⟨p,rfl,W⟩:=IB n1 (F+1) i.1 k (ng _ _ _ _ i.2 s) C;obtain⟨m,a,b,c,d,rfl,X,Z⟩:=GG v (ng _ _ _ _ j.2 z) Q;have f:∀(b:Nat) (o:cG),(UG 6 mJ<|elemAt w).m.get b=some o->sw l b o:=fun b o h=>⟨v b o<|l2.get b o<|l1.get b o h,l2.get b o<|l1.get b o h⟩
 refine⟨M,l,p,m,a,b,c,d,E,P,fun g hg=>?_,L.mono l2.le,R,W.mono n fun _ _ h=>h.mono n,X,Z,hf,⟨⟨_,f _ _<|MR _⟩,⟨_,f _ _<|MS _⟩,⟨_,f _ _<|MT _⟩,⟨_,f _ _<|MU _⟩⟩⟩;exact⟨_,l2.le _ _<|l1.le _ _ (show SG w 6 g=some ⟨g,0,ue w g⟩ from if_pos hg)⟩
end
end Go.Ev
end
