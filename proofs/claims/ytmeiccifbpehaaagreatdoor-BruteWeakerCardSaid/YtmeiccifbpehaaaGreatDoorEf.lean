/- Part of the proof: an evaluator of the model's code, rules for walks on it, walks. Without conditions. -/
import Derived.Test.YtmeiccifbpehaaaGreatDoorEc
import Derived.Test.YtmeiccifbpehaaaGreatDoorEa
import Derived.Test.YtmeiccifbpehaaaGreatDoorEe
import Derived.ReadAgain
import Derived.ProofKit
import Derived.Test.YtmeiccifbpehaaaGreatDoorRows
import Derived.Shelf.SlSortCmp.NoneTotal
import Derived.Shelf.SortG.Plain
import Derived.Shelf.SortG.SortNone
set_option linter.unusedSectionVars false
set_option linter.unusedVariables false
set_option linter.unusedSimpArgs false
noncomputable section
set_option maxHeartbeats 8000000
set_option maxRecDepth 100000
open Go.Proofs
namespace Go.Ev
theorem Kt {H_:Type} {enc:TypeId×Value->H_} {P:Program} {w w':World} {sp:Nat->Bool} (u:∀r:Nat,r<w.heap.size->w'.heap[r]? =w.heap[r]?) {fuel:Nat} {t:TypeId} {cs:List Value} {x:DataW H_×List MemPlace}
  (h:DataW.trod enc P w 0 sp true fuel t cs=some x):DataW.trod enc P w' 0 sp true fuel t cs=some x:=by
 refine DataW.trod_carry fuel t cs x h fun p hp=>?_
 have hlt:=DataW.trod_lt fuel t cs x h p hp;cases p with
 | cell b off=>
  show w'.cell? ⟨b,off,none⟩=w.cell? ⟨b,off,none⟩;unfold World.cell?;rw[u b hlt]
 | map b=>exact u b hlt
theorem tX {H_:Type} {enc:TypeId×Value->H_} {P:Program} {w w':World} {sp:Nat->Bool} (u:∀r:Nat,r<w.heap.size->w'.heap[r]? =w.heap[r]?):∀{ts:List TypeId} {vs:List Value} {ds:List (DataW H_)} {ps:List MemPlace},
  DataW.TrodAll enc P w 0 sp true ts vs ds ps->DataW.TrodAll enc P w' 0 sp true ts vs ds ps
 | [],[],[],_,h=>h
 | _::_,_::_,_::_,_,⟨p,q,⟨n,h1⟩,A,e⟩=>⟨p,q,⟨n,Kt u h1⟩,tX u A,e⟩
theorem FJ {H_:Type} {enc:TypeId×Value->H_} {P:Program} (hl:laidOutB P=true) (hm:mapsRowed P=true) (A:((List.range P.types.size).all fun t=>match P.underlying t with | some (.slice e)=>decide (0<P.cellsOf e) | _=>true)=true) {w w':World} (hk:iK w w') {ts:List TypeId} {vs:List Value} {ds:List (DataW H_)} {ps:List MemPlace}
  (C:(ts.all fun t=>decide (t<P.types.size))=true) (h:DataW.TrodAll enc P w 0 (fun _=>true) true ts vs ds ps) {sp:Nat->Bool} (u:∀p∈ps,sp p.block=true):DataW.TrodAll enc P w' 0 sp true ts vs ds ps:=
 tX hk.same (h.respare (kids_rows hl hm) (slices_full_of P A) (fun t E=>of_decide_eq_true (aE_.1 C t E)) u)
end Go.Ev
namespace Go.Ev
variable [Env]
variable {sp:Nat->Bool} {P:Program}
section
variable {H_:Type} {V:D}
theorem Jh (hn:∀(b:Nat) (o:cd),V.m.get b=some o->b<V.next):∀(fuel:Nat) (d:DataW H_) (vs:List Y),Fit Tryz.prog fuel 75 d->eG Tryz.prog V fuel 75 d vs->kV (Bg V) fuel (Mn fuel d) vs
 | 0,_,_,hf,_=>hf.elim
 | 1,d,vs,hf,u=>by
  obtain⟨_,h⟩:=r9 (m:=4) Tryz.underlying75 B B hf u;exact(h 0 _ Z).1.elim
 | fuel+2,d,vs,hf,u=>by
  obtain⟨hl,h⟩:=r9 (m:=4) Tryz.underlying75 B B hf u
  obtain⟨a,b,c,e,rfl⟩:∃a b c e,vs= [a,b,c,e]:=by
   match vs,hl with
   | [a,b,c,e],_=>exact⟨a,b,c,e,Z⟩
  obtain⟨E,F⟩:Fit Tryz.prog _ 3 (eR d 0)/\eG Tryz.prog V _ 3 (eR d 0) (([a,b,c,e].drop 0).take<|Tryz.prog.cellsOf 3):=h 0 _ Z;obtain⟨G,I⟩:Fit Tryz.prog _ 2 (eR d 1)/\eG Tryz.prog V _ 2 (eR d 1) (([a,b,c,e].drop 1).take<|Tryz.prog.cellsOf 2):=h 1 _ Z;obtain⟨K,L⟩:Fit Tryz.prog _ 9 (eR d 2)/\eG Tryz.prog V _ 9 (eR d 2) (([a,b,c,e].drop 2).take<|Tryz.prog.cellsOf 9):=h 2 _ Z;obtain⟨M,N⟩:Fit Tryz.prog _ 73 (eR d 3)/\eG Tryz.prog V _ 73 (eR d 3) (([a,b,c,e].drop 3).take<|Tryz.prog.cellsOf 73):=h 3 _ Z;have Q:Tryz.prog.cellsOf 3=1:=by kernel_rfl
  have R:Tryz.prog.cellsOf 2=1:=by kernel_rfl
  have T:Tryz.prog.cellsOf 9=1:=by kernel_rfl
  have A:Tryz.prog.cellsOf 73=1:=by kernel_rfl
  have e0:=(px Tryz.underlying3 E F).1;have e1:=(px Tryz.underlying2 G I).1;have e2:=Uw Tryz.underlying9 K L;obtain⟨v,C,W⟩:=rh (m:=4) (Mn fuel) (kV (Bg V) fuel) Tryz.underlying73 B (by decide) hn M N fun x vs hf u=>Jh hn fuel x vs hf u
  rw[Q] at e0;rw[R] at e1;rw[T] at e2;rw[A] at C;simp only[List.drop_zero,List.take_succ_cons,List.take_zero,List.drop_succ_cons,List.cons.injEq,and_true] at e0 e1 e2 C;subst e0;subst e1;subst e2;subst C;show∃w,_= [_,_,_,w]/\bG (Bg V) 4 (kV (Bg V) (fuel+1)) ((ku<|eR d 3).map<|Mn fuel) w;exact⟨_,Z,W.jN fun x vs h=>kV.up h⟩
theorem Rg (hn:∀(b:Nat) (o:cd),V.m.get b=some o->b<V.next) (fuel:Nat) (d:DataW H_) (vs:List Y) (hf:Fit Tryz.prog (fuel+2) 78 d) (A:eG Tryz.prog V (fuel+2) 78 d vs):jA (Bg V) fuel (Uz fuel d) vs:=by
 obtain⟨hl,h⟩:=r9 (m:=6) Tryz.underlying78 B B hf A
 obtain⟨a,b,c,e,g,i,rfl⟩:∃a b c e g i,vs= [a,b,c,e,g,i]:=by
  match vs,hl with
  | [a,b,c,e,g,i],_=>exact⟨a,b,c,e,g,i,Z⟩
 obtain⟨E,F⟩:Fit Tryz.prog _ 3 (eR d 0)/\eG Tryz.prog V _ 3 (eR d 0) (([a,b,c,e,g,i].drop 0).take<|Tryz.prog.cellsOf 3):=h 0 _ Z;obtain⟨G,I⟩:Fit Tryz.prog _ 3 (eR d 1)/\eG Tryz.prog V _ 3 (eR d 1) (([a,b,c,e,g,i].drop 1).take<|Tryz.prog.cellsOf 3):=h 1 _ Z;obtain⟨K,L⟩:Fit Tryz.prog _ 3 (eR d 2)/\eG Tryz.prog V _ 3 (eR d 2) (([a,b,c,e,g,i].drop 2).take<|Tryz.prog.cellsOf 3):=h 2 _ Z;obtain⟨M,N⟩:Fit Tryz.prog _ 3 (eR d 3)/\eG Tryz.prog V _ 3 (eR d 3) (([a,b,c,e,g,i].drop 3).take<|Tryz.prog.cellsOf 3):=h 3 _ Z;obtain⟨Q,R⟩:Fit Tryz.prog _ 3 (eR d 4)/\eG Tryz.prog V _ 3 (eR d 4) (([a,b,c,e,g,i].drop 4).take<|Tryz.prog.cellsOf 3):=h 4 _ Z;obtain⟨T,W⟩:Fit Tryz.prog _ 73 (eR d 5)/\eG Tryz.prog V _ 73 (eR d 5) (([a,b,c,e,g,i].drop 5).take<|Tryz.prog.cellsOf 73):=h 5 _ Z;have X:Tryz.prog.cellsOf 3=1:=by kernel_rfl
 have u:Tryz.prog.cellsOf 73=1:=by kernel_rfl
 have e0:=(px Tryz.underlying3 E F).1;have e1:=(px Tryz.underlying3 G I).1;have e2:=(px Tryz.underlying3 K L).1;have e3:=(px Tryz.underlying3 M N).1;have e4:=(px Tryz.underlying3 Q R).1;obtain⟨v,C,hs⟩:=rh (m:=4) (Mn fuel) (kV (Bg V) fuel) Tryz.underlying73 B (by decide) hn T W fun x vs hf A=>Jh hn fuel x vs hf A
 rw[X] at e0 e1 e2 e3 e4;rw[u] at C;simp only[List.drop_zero,List.take_succ_cons,List.take_zero,List.drop_succ_cons,List.cons.injEq,and_true] at e0 e1 e2 e3 e4 C;subst e0;subst e1;subst e2;subst e3;subst e4;subst C;exact⟨_,Z,hs⟩
theorem Rf (hn:∀(b:Nat) (o:cd),V.m.get b=some o->b<V.next) (fuel:Nat) (d:DataW H_) (vs:List Y) (hf:Fit Tryz.prog (fuel+4) 49 d) (u:eG Tryz.prog V (fuel+4) 49 d vs):sg (Bg V) fuel (Sg fuel d) vs:=by
 obtain⟨hl,h⟩:=r9 (m:=2) Tryz.underlying49 B B hf u
 obtain⟨a,b,rfl⟩:∃a b,vs= [a,b]:=by
  match vs,hl with
  | [a,b],_=>exact⟨a,b,Z⟩
 obtain⟨C,E⟩:Fit Tryz.prog _ 3 (eR d 0)/\eG Tryz.prog V _ 3 (eR d 0) (([a,b].drop 0).take<|Tryz.prog.cellsOf 3):=h 0 _ Z;obtain⟨F,G⟩:Fit Tryz.prog _ 47 (eR d 1)/\eG Tryz.prog V _ 47 (eR d 1) (([a,b].drop 1).take<|Tryz.prog.cellsOf 47):=h 1 _ Z;have I:Tryz.prog.cellsOf 3=1:=by kernel_rfl
 have A:Tryz.prog.cellsOf 47=1:=by kernel_rfl
 have e0:=(px Tryz.underlying3 C E).1;obtain⟨v,e1,K⟩:=rh (m:=6) (Uz fuel) (jA (Bg V) fuel) Tryz.underlying47 B (by decide) hn F G fun x vs hf u=>Rg hn fuel x vs hf u
 rw[I] at e0;rw[A] at e1;simp only[List.drop_zero,List.take_succ_cons,List.take_zero,List.drop_succ_cons,List.cons.injEq,and_true] at e0 e1;subst e0;subst e1;exact⟨_,Z,K⟩
theorem NV (hn:∀(b:Nat) (o:cd),V.m.get b=some o->b<V.next) (fuel:Nat) (d:DataW H_) (vs:List Y) (hf:Fit Tryz.prog (fuel+5) 23 d) (u:eG Tryz.prog V (fuel+5) 23 d vs):∃v,vs= [v]/\bG (Bg V) 2 (sg (Bg V) fuel) ((ku d).map<|Sg fuel) v:=
 rh (m:=2) (Sg fuel) (sg (Bg V) fuel) Tryz.underlying23 B (by decide) hn hf u fun x vs hf u=>Rf hn fuel x vs hf u
end
section
variable {H_:Type} {enc:TypeId×Value->H_} {w:World}
def U3 (w:World) (v:Value):Prop:=v= .slice none 0 0∨∃(a:Addr) (len cap:Nat) (c:Array Value) (e:TypeId) (fr:Nat×Nat),v= .slice (some a) len cap/\w.heap[a.block]? =some (.cells c e fr)
theorem Ot {base:Nat} {t e:TypeId} {v:Value} (hu:Tryz.prog.underlying t=some (.slice e)) (u:Cell.okWide Tryz.prog w .any base t v):U3 w v:=by
 unfold Cell.okWide at u;rw[hu] at u;dsimp only at u;unfold Cell.ok at u;rw[hu] at u;cases v with
 | slice a len cap=>
  cases a with
  | none=>
   try dsimp only at u
   split at u<;>first | (rename_i he;cases he;done) | skip
   all_goals first
    | (rename_i he;cases he;exact .inl Z)
    | (rename_i h1 C;cases C;done)
    | exact u.elim
  | some a=>
   obtain⟨_,_,_,aa,row,cells,A,_⟩:=u;unfold World.shape? at A;split at A
   ·rename_i c e fr hh;exact .inr ⟨a,len,cap,c,e,fr,Z,hh⟩
   cases A
 | _=>exact u.elim
theorem trodAll_cons {ts:List TypeId} {t:TypeId} {vs:List Value} {ds:List (DataW H_)} {ps:List MemPlace} (h:DataW.TrodAll enc P w 0 sp true (t::ts) vs ds ps):
  ∃v vs' d ds',vs=v::vs'/\ds=d::ds'/\(∃n p,DataW.trod enc P w 0 sp true n t v.cells.toList=some (d,p))/\∃q,DataW.TrodAll enc P w 0 sp true ts vs' ds' q:=by
 match vs,ds,h with
 | v::vs',d::ds',⟨p,q,⟨n,h1⟩,u,_⟩=>exact⟨v,vs',d,ds',Z,Z,⟨n,p,h1⟩,q,u⟩
theorem trodAll_nil {vs:List Value} {ds:List (DataW H_)} {ps:List MemPlace} (h:DataW.TrodAll enc P w 0 sp true [] vs ds ps):vs= []/\ds= []:=by
 match vs,ds,h with
 | [],[],_=>exact⟨Z,Z⟩
end
end Go.Ev
namespace Go.Proofs
open Go.Shelf Go.Ev
def Tryz.Ie:Go.Shelf.Ren:=⟨fun | 6=>20 | 15=>46 | 14=>45 | 28=>88 | 29=>89 | 20=>80 | 21=>81 | 22=>82 | 23=>83 | 24=>84 | 25=>85 | 26=>86 | 27=>87 | 46=>115 | 47=>116 | 48=>117 | 49=>118 | 50=>119 | 57=>152 | n=>n,fun | 22=>26 | 24=>34 | 25=>64 | 3=>3 | 39=>101 | 0=>0 | 53=>136 | 55=>138 | 4=>4 | 46=>129 | 45=>128 | 50=>133 | 5=>5 | 9=>9 | 66=>184 | 70=>157 | 76=>217 | 77=>218 | n=>n,fun | n=>n⟩
theorem Tryz.Ur:Go.Proofs.SlLaysF0.n6 Tryz.prog Tryz.Ie:={
 mixed:=by kernel_rfl
 f6:=⟨Tryz.f20.name,by decide,Tryz.func20.trans<|congrArg some B⟩
 f14:=⟨Tryz.f45.name,by decide,Tryz.func45.trans<|congrArg some B⟩
 f15:=Tryz.func46.trans (congrArg some B)
 f20:=⟨Tryz.f80.name,by decide,Tryz.func80.trans<|congrArg some B⟩
 f21:=⟨Tryz.f81.name,by decide,Tryz.func81.trans<|congrArg some B⟩
 f22:=⟨Tryz.f82.name,by decide,Tryz.func82.trans<|congrArg some B⟩
 f23:=⟨Tryz.f83.name,by decide,Tryz.func83.trans<|congrArg some B⟩
 f24:=⟨Tryz.f84.name,by decide,Tryz.func84.trans<|congrArg some B⟩
 f25:=⟨Tryz.f85.name,by decide,Tryz.func85.trans<|congrArg some B⟩
 f26:=⟨Tryz.f86.name,by decide,Tryz.func86.trans<|congrArg some B⟩
 f27:=⟨Tryz.f87.name,by decide,Tryz.func87.trans<|congrArg some B⟩
 f28:=Tryz.func88.trans (congrArg some B)
 f29:=Tryz.func89.trans (congrArg some B)
 f46:=⟨Tryz.f115.name,by decide,Tryz.func115.trans<|congrArg some B⟩
 f47:=Tryz.func116.trans (congrArg some B)
 f48:=Tryz.func117.trans (congrArg some B)
 f49:=⟨Tryz.f118.name,by decide,Tryz.func118.trans<|congrArg some B⟩
 f50:=⟨Tryz.f119.name,by decide,Tryz.func119.trans<|congrArg some B⟩
 f57:=⟨Tryz.f152.name,by decide,Tryz.func152.trans<|congrArg some B⟩
 t0:=Tryz.underlying0
 a0:=Tryz.isAgg0
 z0:=Tryz.sizeOf0
 v0:=Tryz.zeroValue0
 t3:=Tryz.underlying3
 a3:=Tryz.isAgg3
 z3:=Tryz.sizeOf3
 v3:=Tryz.zeroValue3
 t4:=Tryz.underlying4
 a4:=Tryz.isAgg4
 z4:=Tryz.sizeOf4
 v4:=Tryz.zeroValue4
 t5:=Tryz.underlying5
 a5:=Tryz.isAgg5
 z5:=Tryz.sizeOf5
 v5:=Tryz.zeroValue5
 t9:=Tryz.underlying9
 a9:=Tryz.isAgg9
 z9:=Tryz.sizeOf9
 v9:=Tryz.zeroValue9
 t22:=Tryz.underlying26
 a22:=Tryz.isAgg26
 z22:=Tryz.sizeOf26
 v22:=Tryz.zeroValue26
 t25:=Tryz.underlying64
 a25:=Tryz.isAgg64
 z25:=Tryz.sizeOf64
 v25:=Tryz.zeroValue64
 t39:=Tryz.underlying101
 a39:=Tryz.isAgg101
 z39:=Tryz.sizeOf101
 v39:=Tryz.zeroValue101
 t45:=Tryz.underlying128
 a45:=Tryz.isAgg128
 z45:=Tryz.sizeOf128
 v45:=Tryz.zeroValue128
 t46:=Tryz.underlying129
 a46:=Tryz.isAgg129
 z46:=Tryz.sizeOf129
 v46:=Tryz.zeroValue129
 t50:=Tryz.underlying133
 a50:=Tryz.isAgg133
 z50:=Tryz.sizeOf133
 v50:=Tryz.zeroValue133
 t53:=Tryz.underlying136
 a53:=Tryz.isAgg136
 z53:=Tryz.sizeOf136
 v53:=Tryz.zeroValue136
 t55:=Tryz.underlying138
 a55:=Tryz.isAgg138
 z55:=Tryz.sizeOf138
 v55:=Tryz.zeroValue138
 t66:=Tryz.underlying184
 a66:=Tryz.isAgg184
 z66:=Tryz.sizeOf184
 v66:=Tryz.zeroValue184
 t70:=Tryz.underlying157
 a70:=Tryz.isAgg157
 z70:=Tryz.sizeOf157
 v70:=Tryz.zeroValue157
 t76:=Tryz.underlying217
 a76:=Tryz.isAgg217
 z76:=Tryz.sizeOf217
 v76:=Tryz.zeroValue217
 t77:=Tryz.underlying218
 a77:=Tryz.isAgg218
 z77:=Tryz.sizeOf218
 v77:=Tryz.zeroValue218}
def Tryz.Ig:Go.Shelf.Ren:=⟨fun | 53=>66 | 64=>46 | 63=>103 | 78=>88 | 79=>89 | 70=>124 | 71=>125 | 72=>126 | 73=>127 | 74=>128 | 75=>129 | 59=>130 | 76=>131 | 77=>132 | 88=>154 | 89=>116 | 90=>117 | 91=>155 | 92=>156 | 68=>122 | 96=>174 | n=>n,fun | 22=>22 | 23=>2 | 3=>3 | 51=>101 | 0=>0 | 67=>136 | 69=>138 | 4=>4 | 61=>129 | 60=>128 | 44=>133 | 5=>5 | 9=>9 | 75=>184 | 79=>157 | 83=>217 | 84=>218 | n=>n,fun | n=>n⟩
theorem Tryz.Us:Go.Proofs.SlLaysN.n53 Tryz.prog Tryz.Ig:={
 mixed:=by kernel_rfl
 f53:=⟨Tryz.f66.name,by decide,Tryz.func66.trans<|congrArg some B⟩
 f59:=⟨Tryz.f130.name,by decide,Tryz.func130.trans<|congrArg some B⟩
 f63:=⟨Tryz.f103.name,by decide,Tryz.func103.trans<|congrArg some B⟩
 f64:=Tryz.func46.trans (congrArg some B)
 f68:=⟨Tryz.f122.name,by decide,Tryz.func122.trans<|congrArg some B⟩
 f70:=⟨Tryz.f124.name,by decide,Tryz.func124.trans<|congrArg some B⟩
 f71:=⟨Tryz.f125.name,by decide,Tryz.func125.trans<|congrArg some B⟩
 f72:=⟨Tryz.f126.name,by decide,Tryz.func126.trans<|congrArg some B⟩
 f73:=⟨Tryz.f127.name,by decide,Tryz.func127.trans<|congrArg some B⟩
 f74:=⟨Tryz.f128.name,by decide,Tryz.func128.trans<|congrArg some B⟩
 f75:=⟨Tryz.f129.name,by decide,Tryz.func129.trans<|congrArg some B⟩
 f76:=⟨Tryz.f131.name,by decide,Tryz.func131.trans<|congrArg some B⟩
 f77:=⟨Tryz.f132.name,by decide,Tryz.func132.trans<|congrArg some B⟩
 f78:=Tryz.func88.trans (congrArg some B)
 f79:=Tryz.func89.trans (congrArg some B)
 f88:=⟨Tryz.f154.name,by decide,Tryz.func154.trans<|congrArg some B⟩
 f89:=Tryz.func116.trans (congrArg some B)
 f90:=Tryz.func117.trans (congrArg some B)
 f91:=⟨Tryz.f155.name,by decide,Tryz.func155.trans<|congrArg some B⟩
 f92:=⟨Tryz.f156.name,by decide,Tryz.func156.trans<|congrArg some B⟩
 f96:=⟨Tryz.f174.name,by decide,Tryz.func174.trans<|congrArg some B⟩
 t0:=Tryz.underlying0
 a0:=Tryz.isAgg0
 z0:=Tryz.sizeOf0
 v0:=Tryz.zeroValue0
 t3:=Tryz.underlying3
 a3:=Tryz.isAgg3
 z3:=Tryz.sizeOf3
 v3:=Tryz.zeroValue3
 t4:=Tryz.underlying4
 a4:=Tryz.isAgg4
 z4:=Tryz.sizeOf4
 v4:=Tryz.zeroValue4
 t5:=Tryz.underlying5
 a5:=Tryz.isAgg5
 z5:=Tryz.sizeOf5
 v5:=Tryz.zeroValue5
 t9:=Tryz.underlying9
 a9:=Tryz.isAgg9
 z9:=Tryz.sizeOf9
 v9:=Tryz.zeroValue9
 t22:=Tryz.underlying22
 a22:=Tryz.isAgg22
 z22:=Tryz.sizeOf22
 v22:=Tryz.zeroValue22
 t23:=Tryz.underlying2
 a23:=Tryz.isAgg2
 z23:=Tryz.sizeOf2
 v23:=Tryz.zeroValue2
 t44:=Tryz.underlying133
 a44:=Tryz.isAgg133
 z44:=Tryz.sizeOf133
 v44:=Tryz.zeroValue133
 t51:=Tryz.underlying101
 a51:=Tryz.isAgg101
 z51:=Tryz.sizeOf101
 v51:=Tryz.zeroValue101
 t60:=Tryz.underlying128
 a60:=Tryz.isAgg128
 z60:=Tryz.sizeOf128
 v60:=Tryz.zeroValue128
 t61:=Tryz.underlying129
 a61:=Tryz.isAgg129
 z61:=Tryz.sizeOf129
 v61:=Tryz.zeroValue129
 t67:=Tryz.underlying136
 a67:=Tryz.isAgg136
 z67:=Tryz.sizeOf136
 v67:=Tryz.zeroValue136
 t69:=Tryz.underlying138
 a69:=Tryz.isAgg138
 z69:=Tryz.sizeOf138
 v69:=Tryz.zeroValue138
 t75:=Tryz.underlying184
 a75:=Tryz.isAgg184
 z75:=Tryz.sizeOf184
 v75:=Tryz.zeroValue184
 t79:=Tryz.underlying157
 a79:=Tryz.isAgg157
 z79:=Tryz.sizeOf157
 v79:=Tryz.zeroValue157
 t83:=Tryz.underlying217
 a83:=Tryz.isAgg217
 z83:=Tryz.sizeOf217
 v83:=Tryz.zeroValue217
 t84:=Tryz.underlying218
 a84:=Tryz.isAgg218
 z84:=Tryz.sizeOf218
 v84:=Tryz.zeroValue218}
end Go.Proofs
namespace Go.Ev
variable [Env]
variable {V:D} {K:KP}
def Mm (f:Nat) (args:List Y):Option Y:=bif Nat.beq f 4 then(match args with | []=>some (.bool true) | _=>none) else none
def S2 (_:Nat):Bool:=false
def V9:Cx:=⟨6,Jl,S2,Mm,kh,[],fun _ _ _=>none,fun _ _ _=>none⟩
theorem J3 (f:Nat) (args:List Y) (v:Y) (h:Mm f args=some v):IH Tryz.prog 6 kh f args v:=by
 unfold Mm at h;cases h5:Nat.beq f 4 with
 | true=>
  rw[h5] at h;simp only[cond_true] at h;cases args with
  | nil=>cases h;rw[nB h5];exact TP
  | cons _ _=>cases h
 | false=>
  rw[h5] at h;cases h
theorem Cv (f:Nat) (a:List Y) (h:Hy f=false):Mm f a=none:=by
 unfold Mm;rw[show Nat.beq f 4=false from h];rfl
theorem Vs:AG Tryz.prog V9:=⟨Ub,J3,(fun e h=>by cases h),(fun f a s v s' h=>by cases h)⟩
theorem OS:Plain V9:=⟨fun _ _ _ _=>Z,Cv,Z,fun _ _ _=>Z,fun f h=>Z⟩
def Oa (f:Nat) (a:List Y) (s:D):Option (Y×D):=
 bif Nat.beq f 20 then An Tryz.prog V9 20 4 (fun g=>Nat.beq g 21) f a s else bif Nat.beq f 66 then uR 66 f a s else none
def GC:Cx:=⟨6,Jl,S2,Mm,kh,[],fun _ _ _=>none,Oa⟩
theorem WO (g:Nat) (h:Nat.beq g 21=true) (args:Array Value) (w:World):(callFunc g args).run Tryz.prog w= .ok (.enter g args) w:=by
 obtain rfl:=nB h;exact enters_of Tryz.func21 B Z args w
theorem W2:AG Tryz.prog GC:=by
 refine⟨Ub,J3,(fun e h=>by cases h),fun f a s v s' h U w xs hi A hx=>?_⟩;have h:Oa f a s=some (v,s'):=h;unfold Oa at h;cases h1:Nat.beq f 20 with
 | true=>
  rw[h1] at h;simp only[cond_true] at h;exact Ih G2 Vs Tryz.Ur (by decide) Tryz.isAgg34 Tryz.sizeOf34 WO h U w xs hi A hx
 | false=>
  rw[h1] at h;simp only[cond_false] at h;cases u:Nat.beq f 66 with
  | true=>
   rw[u] at h;simp only[cond_true] at h;exact F2 Tryz.Us h U w xs hi hx
  | false=>
   rw[u] at h;cases h
theorem RX:Plain GC:=⟨fun f a s h=>by
 have h:(bif Nat.beq f 20 then true else Nat.beq f 66)=false:=h;show Oa f a s=none;unfold Oa;cases h1:Nat.beq f 20 with
 | true=>rw[h1] at h;cases h
 | false=>rw[h1] at h;rw[show Nat.beq f 66=false from h];rfl,Cv,Z,fun _ _ _=>Z,fun f h=>Z⟩
theorem VW:MQ GC V9:=⟨RX,OS,fun a s=>Z,fun a s=>Z⟩
theorem rN {gl:Nat} {g:Nat} {c:List Y} {r:List (Nat×List Y)} {e:TypeId} (h1:Nat.ble (Nat.succ g) gl=true) (u:e6 c=true) (h3:lL c c=true) (A:V.m.get g=some (.row c e true)) (h5:kB gl V r=true):kB gl V ((g,c)::r)=true:=by
 show(bif Nat.ble (Nat.succ g) gl then(match V.m.get g with
  | some (.row cells _ true)=>bif e6 c then(bif lL cells c then kB gl V r else false) else false
  | _=>false) else false)=true
 rw[A,h1];dsimp only;rw[u,h3,h5];rfl
structure Ed (K:KP):Prop where
 h0:∃e,K (posOf 0) (.row vE e true)
 h3:∃e,K (posOf 3) (.row CX e true)
 h4:∃e,K (posOf 4) (.row CY e true)
 h5:∃e,K (posOf 5) (.row CZ e true)
theorem Ed.laid {K:KP} (h:Ed K) (V:D) (L:Own) (O:H V K L):kB GC.gl V GC.laid=true:=by
 obtain⟨⟨e0,h0⟩,⟨e3,h3⟩,⟨e4,u⟩,⟨e5,h5⟩⟩:=h;exact rN (gl:=6) (by decide) B B (O.bJ h0)<|rN (by decide) B B (O.bJ h3)<|rN (by decide) B B (O.bJ u)<|rN (by decide) B B (O.bJ h5) Z
theorem Ed.sh (h:Ed K):sf GC K:=by
 obtain⟨e,h0⟩:=h.h0;have e1:DJ=vE:=by kernel_rfl
 exact⟨by decide,e,true,by rw[e1];exact h0⟩
theorem TJ (E:Nat->TypeId):(σG 6 kh E).m.get (posOf 0)=some (.row vE (E 0) true):=rfl
theorem TK (E:Nat->TypeId):(σG 6 kh E).m.get (posOf 3)=some (.row CX (E 3) true):=rfl
theorem TL (E:Nat->TypeId):(σG 6 kh E).m.get (posOf 4)=some (.row CY (E 4) true):=rfl
theorem TM (E:Nat->TypeId):(σG 6 kh E).m.get (posOf 5)=some (.row CZ (E 5) true):=rfl
section
variable {H_:Type} {enc:TypeId×Value->H_} {w:World}
theorem Lp (ho:MO w) (L:6<=w.heap.size) (hl:∀x∈kh,ll w x) {F:Nat} {q0 q1:List Value} {C A:DataW H_×List MemPlace}
  (W:DataW.trod enc Tryz.prog w 0 (fun _=>true) true (F+6) 22 q0=some C) (X:DataW.trod enc Tryz.prog w 0 (fun _=>true) true (F+6) 23 q1=some A):
  ∃(U:Ren) (V:D) (I K:Y),Inv U V w/\lC V/\GR U GC/\di U [I] q0/\di U [K] q1/\bG (Bg V) 1 dB ((ku C.1).map xx) I/\bG (Bg V) 2 (sg (Bg V) (F+1)) ((ku A.1).map<|Sg (F+1)) K/\Ed (Bg V):=by
 have hw:∃(r:Nat) (c:Array Value) (e:TypeId) (fr:Nat×Nat),w.heap[r]? =some (Obj.cells c e fr):=by
  obtain⟨c,e,fr,h,_⟩:=hl (0,vE) (.head _);exact⟨0,c,e,fr,h⟩
 have hi0:=Vi ho L XW hl
 have M:lC (σG 6 kh<|elemAt w):=fun b o h=>by
  obtain⟨x,_,_,rfl⟩:=VG_get h;rfl
 obtain⟨ρ1,N,aa,i1,r1,l1,d0,v0⟩:=lay hw (F+6) 22 q0 C.1 C.2 W _ _ hi0 M;obtain⟨ρ2,E,Q,i2,r2,l2,d1,v1⟩:=lay hw (F+6) 23 q1 A.1 A.2 X _ _ i1 r1;have n1:∀(b:Nat) (o:cd),N.m.get b=some o->b<N.next:=fun b o h=>eG.fresh i1 h
 have R:∀(b:Nat) (o:cd),E.m.get b=some o->b<E.next:=fun b o h=>eG.fresh i2 h
 have T:KP.le (Bg N) (Bg E):=fun b o h=>⟨R b o<|l2.get b o h.2,l2.get b o h.2⟩
 have c2:Tryz.prog.cellsOf 2=1:=by kernel_rfl
 obtain⟨I,rfl,s0⟩:=rh (m:=1) xx dB Tryz.underlying22 c2 (by decide) n1 (qA _ _ _ _ C.2 W) d0 fun x vs hf hd=>(px Tryz.underlying2 hf hd).1
 obtain⟨K,rfl,s1⟩:=NV R (F+1) A.1 Q (qA _ _ _ _ A.2 X) d1;have u:∀(b:Nat) (o:cd),(σG 6 kh<|elemAt w).m.get b=some o->Bg E b o:=fun b o h=>⟨R b o<|l2.get b o<|l1.get b o h,l2.get b o<|l1.get b o h⟩
 refine⟨ρ2,E,I,K,i2,r2,fun g hg=>?_,v0.mono l2.le,v1,s0.mono T fun _ _ h=>h,s1,⟨⟨_,u _ _<|TJ _⟩,⟨_,u _ _<|TK _⟩,⟨_,u _ _<|TL _⟩,⟨_,u _ _<|TM _⟩⟩⟩;exact⟨_,l2.le _ _<|l1.le _ _ (show ρG w 6 g=some ⟨g,0,Ak w g⟩ from if_pos hg)⟩
end
end Go.Ev
end
