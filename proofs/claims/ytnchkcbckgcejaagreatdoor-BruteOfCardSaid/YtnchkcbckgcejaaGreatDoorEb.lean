/- Part of the proof: an evaluator of the model's code, rules for walks on it, walks. Without conditions. -/
import Derived.Test.YtnchkcbckgcejaaGreatDoorEa
import Derived.RecoverIn
import Derived.TacticsIn
import Derived.OrdersIn
import Derived.Sort.LoopGhostIn
import Derived.Scope
import Derived.ProofKit
import Derived.LaidSub
import Derived.KernelRfl
import Derived.Test.YtnchkcbckgcejaaGreatDoorProg
import Derived.ReadAgain
set_option linter.unusedSectionVars false
set_option linter.unusedVariables false
set_option linter.unusedSimpArgs false
noncomputable section
set_option maxHeartbeats 8000000
set_option maxRecDepth 4000
open Go.Proofs
namespace Go.Ev
variable [Env]
variable {xs:Array Value} {Q:Exit->Act->World->Prop} {cs₁:List V} {lv l₁:Loc} {e o₁ ve:Nat} {b₁:Pos} {ρ₁:Ren} {res:Result Next} {w₁:World} {σ₁:aB} {ih:jY}
theorem wK {p q:Pos} (h:dQ.beqP p q=true):p=q:=nB h
theorem OC {c d:rK} (h:dQ.beqC c d=true):c=d:=by
 unfold dQ.beqC at h
 grind [nB]
theorem HD {x y:V} (h:dQ.iK x y=true):x=y:=by
 unfold dQ.iK at h;split at h
 ·grind
 ·rw[bA_,cK,decide_eq_true_eq] at h;rw[pX h.1,h.2]
 ·rw[xN,decide_eq_true_eq] at h;rw[h]
 ·rfl
 ·simp_all
 ·rw[bA_] at h;rw[wK h.1,nB h.2]
 ·rfl
 ·simp only[bA_] at h;grind [wK,nB,OC]
 ·rfl
 ·rw[wK h]
 ·rfl
 ·rfl
 ·simp_all
 ·simp only[bA_] at h;grind [nB,wK]
 cases h
theorem qT:∀{xs ys:List V},dQ.beqL xs ys=true->xs=ys
 | [],[],_=>rfl
 | [],_::_,h=>by cases h
 | _::_,[],h=>by cases h
 | x::xs,y::ys,h=>by
  have h':(bif dQ.iK x y then dQ.beqL xs ys else false)=true:=h;rw[bM] at h';split at h'
  ·rename_i hb;rw[HD hb,qT h']
  cases h'
theorem wJ {x y:V} (h:dQ x y=true):x=y:=by
 unfold dQ at h;split at h
 ·rw[qT h]
 exact HD h
theorem yB (E:Nat->TypeId) {l:List (Nat×List V)} {b:Nat} {o:cN} (h:(Gw l E).get b=some o):∃x∈l,x.1=b/\o= .row x.2 (E x.1) true:=by
 have key:∀(l:List (Nat×List V)) (m:PT cN),(l.foldl (fun m x=>m.put (some (.row x.2 (E x.1) true)) (posOf x.1)) m).get b=some o->(∃x∈l,x.1=b/\o= .row x.2 (E x.1) true)∨m.get b=some o:=by
  intro l;induction l with
  | nil=>simp_all
  | cons x l ih=>
   intro m h;rcases ih _ h with ⟨y,h1,h2⟩ | h
   ·grind
   rw[PT.jM] at h
   grind
 rcases key l _ h with h | h
 ·exact h
 rw[PT.ml] at h;cases h
section
variable {P:Program} {G:Cx} {Y:Ren} {O:aB} {w:World}
theorem Inv.putObj (hi:Inv Y O w) {b:Pos} {l:Loc} {o o':cN} {x:Obj} (hb:O.m.get b=some o) (hl:Y b=some l) (u:o.ro=false) (d:o'.ro=false) (z:gF Y l o' x):
  Inv Y (O.setObj b o') (w.putObj l.dz x)/\fb Y O w Y (O.setObj b o') (w.putObj l.dz x):=by
 have hlt:=hi.dz b l hl;exact hi.change hb hl u d (World.putObj_heap_same hlt) z (fun r A=>World.putObj_heap_other A) (by simp) Z Z ⟨Z,nR_ _⟩
theorem Ey (u:∀g,G.ov g=true->xf P g) {ev:Operand->Option V} {f:Operand->Value} {o:Oper} {r:HR} (hi:Inv Y O w) (d:ER Y ev f o.op) (h:eo P G ev O o.op=r) (hne:∀n,r≠ .err n):zK P Y O w r ((execOp f o).run P w):=by
 subst h;unfold eo at hne⊢;cases hk:kindOf P o.op with
 | pure=>
  rw[hk] at hne;dsimp only at hne⊢;cases hp:eh P ev o.op with
  | none=>simp_all
  | some v=>
   obtain⟨x,hx,hv⟩:=y9 (P:=P) (w:=w) d hp;rw[hx];exact .val hv hi<|fb.refl Y O w
 | read=>
  rw[hk] at hne;dsimp only at hne⊢;cases hp:gE P ev O o.op with
  | none=>simp_all
  | some v=>
   obtain⟨x,hx,hv⟩:=zf (P:=P) hi d hp;rw[hx];exact .val hv hi<|fb.refl Y O w
 | alloc=>
  rw[hk] at hne;dsimp only at hne⊢;cases hp:fP P ev o.op with
  | none=>simp_all
  | some p=>
   obtain⟨ob,mk⟩:=p;obtain⟨x,ob',n,hx,aa,z,hv⟩:=vD (P:=P) (w:=w) d hp;obtain⟨inv,st⟩:=hi.alloc (l:=⟨w.heap.size,0,n⟩) Z z;rw[hx];exact .val (hv _ _<|Ren.cZ _ _ _) inv st
 | kT=>
  rw[hk] at hne;exact Ef u hi d Z hne
theorem wa {ev:Operand->Option V} {o:Oper} (hne:∀n,eo P G ev O o.op≠ .err n) (c:Call):o.op≠ .defer c:=by
 intro e;rw[e] at hne;exact hne 16 Z
def SJ (Y:Ren):Md->FrameMode->Prop
 | .ret,u=>u= .returning
 | .kE v,u=>∃x,u= .panicking [{v:=x,recovered:=false}]/\VR Y v x
 | .VL v,u=>∃x,u= .panicking [{v:=x,recovered:=true}]/\VR Y v x
theorem SJ.Pf {Y:Ren}:∀{md:Md} {u:FrameMode},SJ Y md u->u≠ .run
 | .ret,u,h=>by have h:u= .returning:=h;subst h;simp
 | .kE v,u,⟨x,h1,d⟩=>by subst h1;simp
 | .VL v,u,⟨x,h1,d⟩=>by subst h1;simp
theorem qj {ih:jY} (K:Sound P G ih) {fn:Func} {m:Nat} {tmps:Array Value} {R:Ending->World->Prop}:∀(d:List DE) (ds:List Deferred) (md:Md) (O:aB) (z:Md) (σ₁:aB) (Y:Ren) (w:World) (u:FrameMode),uU P G ih d md O=some (z,σ₁)->DR Y d ds->Inv Y O w->GR Y G->SJ Y md u->
  (∀(Y':Ren) (w':World) (u':FrameMode),Inv Y' σ₁ w'->fb Y O w Y' σ₁ w'->SJ Y' z u'->LeavesIn Fence.wide m P fn tmps R [] u' w')->LeavesInM Fence.wide m P fn tmps R ds u w
 | [],ds,md,O,z,σ₁,Y,w,u,h,hd,hi,B,hm,hk=>by
  have h':some (md,O)=some (z,σ₁):=h;cases h';have:ds= []:=hd;subst this;exact hk Y w u hi (fb.refl Y O w) hm
 | .mark b::d,ds,md,O,z,σ₁,Y,w,u,h,hd,hi,B,hm,hk=>by
  obtain⟨l,r,hl,rfl,C⟩:=hd
  have h':(match O.m.get b with
    | some .mark=>uU P G ih d md (O.setObj b .dead)
    | _=>none)=some (z,σ₁):=h
  cases hb:O.m.get b with
  | none=>rw[hb] at h';cases h'
  | some o=>
   rw[hb] at h';cases o with
   | mark=>
    dsimp only at h';obtain⟨x,hx,E⟩:=hi.obj b _ l hb hl;have A:x= .deferred (some []):=E;subst A;obtain⟨inv,st⟩:=hi.putObj (o':=.dead) (x:=.deferred none) hb hl Z Z trivial;refine⟨hm.Pf,.inl ⟨l.dz,w.putObj l.dz (.deferred none),Z,run_takeDeferred hx,?_⟩⟩;exact qj K d r md _ z σ₁ Y _ u h' C inv B hm fun Y' w' u' I st'=>hk Y' w' u' I (st.trans st')
   | _=>cases h'
 | .call _ _ _::_,ds,md,O,z,σ₁,Y,w,u,h,hd,hi,B,hm,hk=>by cases h
theorem uK (C:Sound P G ih) {fn:Func} {m n:Nat} {t:PT V} {d:List DE} {md:Md} {r:KR} {a:Act} {u:FrameMode} {R:Ending->World->Prop} (h:zP P G ih fn md t d O=r) (hne:∀n,r≠ .err n) (hi:Inv Y O w) (I:GR Y G) (M:TR Y t n a.tmps) (hd:DR Y d a.defers) (hm:SJ Y md u)
  (K:∀(Y':Ren) (w':World) (E:Ending),Inv Y' r.heap w'->fb Y O w Y' r.heap w'->SH Y' r E->R E w'):LeavesInM Fence.wide m P fn a.tmps R a.defers u w:=by
 unfold zP at h;cases hl:uU P G ih d md O with
 | none=>grind
 | some q=>
  obtain⟨B,σ₁⟩:=q;rw[hl] at h;cases B with
  | ret=>
   dsimp only at h;cases L:e7 P fn t σ₁ with
   | none=>grind
   | some v=>
    rw[L] at h;subst h;refine qj C d a.defers md O _ _ Y w u hl hd hi I hm fun Y' w' u' A st' z=>?_
    have z:u'= .returning:=z;subst z;obtain⟨x,hx,hv⟩:=zW (P:=P) A (M.mono<|st'.le hi) L;exact⟨x,hx,K Y' w' _ A st' ⟨x,Z,hv⟩⟩
  | kE v=>
   dsimp only at h;subst h;refine qj C d a.defers md O _ _ Y w u hl hd hi I hm fun Y' w' u' A st' z=>?_
   obtain⟨x,rfl,hv⟩:=z;exact K Y' w' _ A st' ⟨x,Z,hv⟩
  | VL v=>grind
theorem Ai (B:Sound P G ih) {f:Nat} {args:List V} {r:KR} (h:nU P G ih f args O=r) (hne:∀n,r≠ .err n) (hi:Inv Y O w) (C:GR Y G) (hx:dA Y args xs.toList)
  (rl:Option Nat) (m:Nat) {R:Ending->World->Prop} (I:∀(Y':Ren) (w':World) (E:Ending),Inv Y' r.heap w'->fb Y O w Y' r.heap w'->SH Y' r E->R E w'):CallsIn (lH rl) m P f xs w R:=by
 refine sO rl ?_;unfold nU at h;cases hf:P.funcs[f]? with
 | none=>grind
 | some fn=>
 rw[hf] at h;dsimp only at h;cases hb:fn.body with
 | none=>grind
 | some c=>
 cases K:rS fn.ntmps args with
 | none=>grind
 | some t=>
 rw[hb,K] at h;dsimp only at h;refine callsIn_of_wp_marks hf hb trivial ?_;have ht:=FQ K hx;cases L:ih c t fn.ntmps [] none O with
 | err k=>grind
 | ok e t' d' σ₁=>
  rw[L] at h;have hcode:=fun(Q:Exit->Act->World->Prop) M=>B.run c t fn.ntmps [] none O e t' d' σ₁ L Y w {tmps:=xs++Array.replicate (fn.ntmps-xs.size) undef,defers:=[]} none m Q hi C ht Z trivial M
  cases e with
  | normal=>
   refine hcode _ fun Y' w' a' u st z A E d=>?_
   have d:E= .normal:=d;subst d;exact uK B h hne u (C.mono<|st.le hi) z A (md:=.ret) Z fun ρ₂ w₂ E i₂ s₂ d=>I ρ₂ w₂ E i₂ (st.trans s₂) d
  | ret=>
   refine hcode _ fun Y' w' a' u st z A E d=>?_
   have d:E= .ret:=d;subst d;exact uK B h hne u (C.mono<|st.le hi) z A (md:=.ret) Z fun ρ₂ w₂ E i₂ s₂ d=>I ρ₂ w₂ E i₂ (st.trans s₂) d
  | kE v=>
   refine hcode _ fun Y' w' a' u st z A E d=>?_
   obtain⟨x,rfl,hv⟩:=d;exact uK B h hne u (C.mono<|st.le hi) z A (md:=.kE v) ⟨x,Z,hv⟩ fun ρ₂ w₂ E i₂ s₂ d=>I ρ₂ w₂ E i₂ (st.trans s₂) d
  | exit i=>grind
  | goto i=>grind
theorem mW (d:Sound P G ih) {f:Nat} {args:List V} {O':aB} {v:V} (h:nU P G ih f args O= .ret v O') (hi:Inv Y O w) (u:GR Y G) (hx:dA Y args xs.toList)
  (rl:Option Nat) (m:Nat) {R:Ending->World->Prop} (z:∀(Y':Ren) (w':World) (x:Value),Inv Y' O' w'->fb Y O w Y' O' w'->VR Y' v x->R (.returned x) w'):CallsIn (lH rl) m P f xs w R:=
 Ai d h (fun n h=>by cases h) hi u hx rl m fun Y' w' E i s ⟨x,A,hv⟩=>by subst A;exact z Y' w' x i s hv
theorem oi {Y Y':Ren} {v:V} {x:Value} (h:r6 v=true) (hv:VR Y v x):VR Y' v x:=by
 cases v<;>first | (simp[r6] at h;done) | (simp only[VR] at hv⊢;exact hv)
theorem tq {v:V} {l:List V} (h:fo (v::l)=true):r6 v=true/\fo l=true:=by
 have h':(bif r6 v then fo l else false)=true:=h
 simp_all
theorem kO:∀{l:List V},fo l=true->∀v∈l,r6 v=true
 | [],_,v,hv=>by cases hv
 | x::l,h,v,hv=>by
  obtain⟨h1,d⟩:=tq h;rcases mQ_.1 hv with rfl | hv
  ·exact h1
  exact kO d v hv
theorem vB {Y Y':Ren}:∀{vs:List V} {xs:List Value},fo vs=true->dA Y vs xs->dA Y' vs xs
 | [],xs,_,h=>by rw[h.eK];exact dA.nil
 | v::vs,xs,h,hv=>by
  obtain⟨h1,d⟩:=tq h;obtain⟨x,r,rfl,u,z⟩:=hv.cons_inv;exact dA.cons (oi h1 u)<|vB d z
theorem Jp {x y:V} (h:BZ x y=true):x=y:=by
 unfold BZ at h;split at h
 ·grind
 ·rw[bA_,cK,decide_eq_true_eq] at h;rw[pX h.1,h.2]
 ·rw[xN,decide_eq_true_eq] at h;rw[h]
 ·rfl
 ·rfl
 ·rfl
 ·rfl
 ·rfl
 cases h
theorem mh:∀{xs ys:List V},lF xs ys=true->xs=ys
 | [],[],_=>rfl
 | [],_::_,h=>by cases h
 | _::_,[],h=>by cases h
 | x::xs,y::ys,h=>by
  have h':(bif BZ x y then lF xs ys else false)=true:=h;rw[bM] at h';split at h'
  ·rename_i hb;rw[Jp hb,mh h']
  cases h'
theorem zg (v:V):∀(n:Nat),Iu n v=List.replicate n v
 | 0=>rfl
 | n+1=>by show v::Iu n v=_;rw[zg v n,List.replicate_succ]
theorem iN.inv {w w':World} (hk:iN w w') (hi:Inv Y O w):Inv Y O w'/\fb Y O w Y O w':=
 hi.of ⟨⟨hi.fresh,fun b l hb=>zh_ (hi.dz b l hb) hk.size,fun b o l hb hl=>let ⟨x,hx,d⟩:=hi.obj b o l hb hl;⟨x,by rw[hk.same _<|hi.dz b l hl];exact hx,d⟩,hi.inj⟩,
  ⟨fun _ _=>Z,nR_ _,hk.size,fun r u _=>hk.same r u,fun _ h _=>h,hk.tape,hk.os,hk.out⟩⟩
theorem HX {b vb:Pos} {o o':cN} (x:Pos):(ga O b o vb o').m.get x=if x=vb then some o' else if x=b then some o else none:=by
 unfold ga;rw[PT.jM,PT.jM,PT.ml]
theorem Qi (hi:Inv Y O w) {b vb:Pos} {o o₁ o':cN} {l:Loc} (hb:O.m.get b=some o) (aa:O.m.get vb=some o') (hl:Y b=some l) (ab:o.ro=o₁.ro)
  (ho:∀x,gF Y l o x->gF Y l o₁ x):Inv Y (ga O b o₁ vb o') w:=by
 have back:∀x q,(ga O b o₁ vb o').m.get x=some q->∃q',O.m.get x=some q'/\q.ro=q'.ro/\((x=b/\q=o₁)∨q=q'):=fun x q h=>by
  rw[HX] at h
  grind
 refine⟨⟨fun x hx=>⟨(hi.fresh x hx).1,?_⟩,hi.dz,fun x q lx hx d=>?_,fun x y q r lx ly hx hy d u he hne=>?_⟩,hi.oI.size,hi.oI.same,fun r C ⟨x,q,l',h1,z,A,B⟩=>?_⟩
 ·cases hq:(ga O b o₁ vb o').m.get x with
  | none=>rfl
  | some q=>
   obtain⟨q',h',_⟩:=back x q hq;rw[(hi.fresh x hx).2] at h';cases h'
 ·obtain⟨q',h',_,h''⟩:=back x q hx;obtain⟨y,hy,C⟩:=hi.obj x q' lx h' d
  grind
 ·obtain⟨q',h1,z,_⟩:=back x q hx;obtain⟨r',A,B,_⟩:=back y r hy;rw[z,B];exact hi.inj x y q' r' lx ly h1 A d u he hne
 obtain⟨q',h5,E,_⟩:=back x q h1;exact hi.oI.no r C ⟨x,q',l',h5,by rw[<-E];exact z,A,B⟩
theorem JH (hi:Inv Y O w) {b vb:Pos} {cells cells' vc:List V} {l:Loc} (hb:O.m.get b=some (.row cells e false)) (L:O.m.get vb=some (.row vc ve false)) (Q:Y b=some l) (u:Y vb=some lv)
  (hne:b≠vb) (i₁:Inv ρ₁ σ₁ w₁) (s₁:fb Y (ga O b (.row cells' e false) vb (.row vc ve false)) w ρ₁ σ₁ w₁) {k:Nat}
  (g₁:σ₁.m.get b₁=some (.row cs₁ e false)) (hl₁:ρ₁ b₁=some l₁) (gv:σ₁.m.get vb=some (.row vc ve false)) (hne₁:b₁≠vb) (ak:fo vc=true) (hk:o₁+k<=cs₁.length) (am:fo ((cs₁.drop o₁).take k)=true):
  BC (Y.with O.next ⟨l₁.dz,l₁.sh+o₁,l₁.cells-o₁⟩) ((O.drop b).alloc (.row ((cs₁.drop o₁).take k) e false)) w₁/\
   fb Y O w (Y.with O.next ⟨l₁.dz,l₁.sh+o₁,l₁.cells-o₁⟩) ((O.drop b).alloc (.row ((cs₁.drop o₁).take k) e false)) w₁:=by
 have hle:=hi.w9 ⟨l₁.dz,l₁.sh+o₁,l₁.cells-o₁⟩;have M:((O.drop b).alloc (.row ((cs₁.drop o₁).take k) e false)).m.get O.next=some (.row ((cs₁.drop o₁).take k) e false):=PT.dY _ _ _
 have ab:∀x,x≠O.next->((O.drop b).alloc (.row ((cs₁.drop o₁).take k) e false)).m.get x=if x=b then none else O.m.get x:=fun x hx=>by
  show((O.m.put none b).put _ O.next).get x=_;rw[PT.dL _ _ _ _ hx,PT.jM]
 have oI:∀x q,x≠O.next->((O.drop b).alloc (.row ((cs₁.drop o₁).take k) e false)).m.get x=some q->x≠b/\O.m.get x=some q:=fun x q hx h=>by
  simp_all
 have hold:∀x lx,x≠O.next->(Y.with O.next ⟨l₁.dz,l₁.sh+o₁,l₁.cells-o₁⟩) x=some lx->Y x=some lx:=fun x lx hx h=>by rwa[Ren.eC Y _ hx] at h
 have T:∀x:Pos,x.num<O.next.num->x≠O.next:=fun x hx e=>by simp_all
 have R:∀r,Wr Y (ga O b (.row cells' e false) vb (.row vc ve false)) r->r=l.dz∨r=lv.dz:=fun r ⟨x,q,lx,h1,I,B,C⟩=>by
  rw[HX] at h1
  grind
 have wrs:∀r,Wr Y (ga O b (.row cells' e false) vb (.row vc ve false)) r->Wr Y O r:=fun r h=>by
  rcases R r h with rfl | rfl
  ·exact⟨b,_,l,hb,Z,Q,Z⟩
  exact⟨vb,_,lv,L,Z,u,Z⟩
 have away:∀x q lx,x≠b->x≠vb->O.m.get x=some q->Y x=some lx->lx.dz≠l.dz/\lx.dz≠lv.dz:=fun x q lx h1 I B C=>by
  constructor
  ·intro he;have:=(hi.inj x b q _ lx l B hb C Q he h1).2;simp[cN.ro] at this
  intro he;have:=(hi.inj x vb q _ lx lv B L C u he I).2;simp[cN.ro] at this
 have ac:∀x q lx,x≠b->O.m.get x=some q->Y x=some lx->lx.dz≠l₁.dz:=fun x q lx h1 B C he=>by
  have hlt:=hi.dz x lx C;have hw:Wr ρ₁ σ₁ lx.dz:=⟨b₁,_,l₁,g₁,Z,hl₁,he.symm⟩
  by_cases I:x=vb
  ·subst I;rw[u] at C;cases C;have E:ρ₁ x=some lv:=s₁.ext x (hi.GB u) |>.trans u;have:=(i₁.inj b₁ x _ _ l₁ lv g₁ gv hl₁ E he.symm hne₁).1;simp[cN.ro] at this
  obtain⟨a1,a2⟩:=away x q lx h1 I B C;rcases R _ (s₁.wr _ hw hlt) with h | h
  ·exact a1 h
  exact a2 h
 have flatObj:∀{l':Loc} {c:List V} {e':Nat} {y:Obj} {Ya Yb:Ren},fo c=true->gF Ya l' (.row c e' false) y->gF Yb l' (.row c e' false) y:=fun hc ho=>by
  obtain⟨c',fr,h1,I,B,C,h5⟩:=ho;exact⟨c',fr,h1,I,B,fun i v hv=>let ⟨z,hz,W⟩:=C i v hv;⟨z,hz,oi (kO hc v<|gB_ hv) W⟩,h5⟩
 constructor
 ·refine⟨fun x hx=>?_,fun x lx d=>?_,fun x q lx hx d=>?_,fun x y q r lx ly hx hy d X he S=>?_⟩
  ·have K:O.next.num+1<=x.num:=by simpa [aB.alloc,aB.drop,Pos.iT] using hx
   have A:x≠O.next:=fun e=>by subst e;omega
   have hf:=hi.fresh x oM
   grind [Ren.eC]
  ·by_cases A:x=O.next
   ·subst A;rw[Ren.cZ] at d;cases d;exact i₁.dz b₁ l₁ hl₁
   exact zh_ (hi.dz x lx<|hold x lx A d) s₁.size
  ·by_cases A:x=O.next
   ·subst A;rw[M] at hx;rw[Ren.cZ] at d;cases hx;cases d;obtain⟨c,fr,h1,I,B,C,h5⟩:=i₁.row g₁ hl₁;refine⟨_,h1,c,fr,Z,?_,?_,fun i v hv=>?_,fun _ j hj=>h5 Z j (by grind)⟩
    ·grind
    ·grind
    grind [oi,kO]
   obtain⟨ao,K⟩:=oI x q A hx;have hlx':=hold x lx A d
   by_cases aa:x=vb
   ·subst aa;rw[L] at K;cases K;rw[u] at hlx';cases hlx';have E:ρ₁ x=some lv:=(s₁.ext x<|hi.GB u).trans u;obtain⟨y,hy,N⟩:=i₁.obj x _ lv gv E
    grind
   obtain⟨y,hy,N⟩:=hi.obj x q lx K hlx';refine⟨y,?_,N.mono hle⟩;rw[s₁.frame _ (hi.dz x lx hlx') (fun h=>?_)]
   ·exact hy
   grind
  by_cases e1:x=O.next<;>by_cases e2:y=O.next
  ·simp_all
  ·grind [Ren.cZ]
  ·grind [Ren.cZ]
  exact hi.inj x y q r lx ly (oI x q e1 hx).2 (oI y r e2 hy).2 (hold x lx e1 d) (hold y ly e2 X) he S
 refine⟨fun x hx=>Ren.eC Y _ (T x hx),by simp[aB.alloc,aB.drop,Pos.iT],s₁.size,fun r N hn=>s₁.frame r N fun h=>hn (wrs r h),?_,s₁.tape,s₁.os,s₁.out⟩;rintro r ⟨x,q,lx,h1,I,B,rfl⟩ N
 by_cases e1:x=O.next
 ·subst e1;rw[Ren.cZ] at B;cases B;exact wrs _ (s₁.wr _ ⟨b₁,_,l₁,g₁,Z,hl₁,Z⟩ N)
 exact⟨x,q,lx,(oI x q e1 h1).2,I,hold x lx e1 B,Z⟩
theorem Gs (hi:Inv Y O w) {b vb:Pos} {cells cells' vc:List V} {l:Loc} (hb:O.m.get b=some (.row cells e false)) (d:O.m.get vb=some (.row vc ve false)) (u:Y b=some l) (z:Y vb=some lv)
  (hne:b≠vb) (i₁:Inv ρ₁ σ₁ w₁) (s₁:fb Y (ga O b (.row cells' e false) vb (.row vc ve false)) w ρ₁ σ₁ w₁) {k:Nat}
  (g₁:σ₁.m.get b₁=some (.row cs₁ e false)) (hl₁:ρ₁ b₁=some l₁) (gv:σ₁.m.get vb=some (.row vc ve false)) (hne₁:b₁≠vb) (A:fo vc=true) (hk:o₁+k<=cs₁.length) (B:fo ((cs₁.drop o₁).take k)=true):
  Inv (Y.with O.next ⟨l₁.dz,l₁.sh+o₁,l₁.cells-o₁⟩) ((O.drop b).alloc (.row ((cs₁.drop o₁).take k) e false)) w₁/\
   fb Y O w (Y.with O.next ⟨l₁.dz,l₁.sh+o₁,l₁.cells-o₁⟩) ((O.drop b).alloc (.row ((cs₁.drop o₁).take k) e false)) w₁:=hi.of (JH hi hb d u z hne i₁ s₁ g₁ hl₁ gv hne₁ A hk B)
theorem Gz {r:KR} {v:V} {O':aB} (h:uY r= .ret v O'):r= .ret v O':=by
 unfold uY at h
 grind
theorem Gy (r:KR) (v:V) (O':aB):uY r≠ .kE v O':=by
 unfold uY
 grind
theorem Gk (hS:Sound P G ih) {f:Nat} {args:List V} {O':aB} {v:V} (h:LI P G ih f args O= .ret v O') (hi:Inv Y O w) (hg:GR Y G) (hx:dA Y args xs.toList)
  (rl:Option Nat) (m:Nat) {R:Ending->World->Prop} (T:∀(Y':Ren) (w':World) (x:Value),Inv Y' O' w'->fb Y O w Y' O' w'->VR Y' v x->R (.returned x) w'):CallsIn (lH rl) m P f xs w R:=by
 unfold LI at h;split at h
 ·rename_i b off n sz i vb voff q mc;split at h
  ·rename_i cells e vc ve hb I;rw[bM] at h;split at h
   ·rename_i hc;simp only[bA_,nE_,Nat.beq_eq,db] at hc;obtain⟨hne,a5,W,a9,X,hlen⟩:=hc;subst W;have K:b≠vb:=fun e=>by subst e;rw[pf] at hne;simp at hne
    split at h
    ·rename_i u r1 n2 r2 ab ac;rw[bM] at h;split at h
     ·rename_i hq;rw[bA_] at hq;have en:=nB hq.1;have er:=mh hq.2;subst en;subst er;cases h;obtain⟨x1,rr,e1,hs,ak⟩:=hx.cons_inv;obtain⟨x2,rr',rfl,ba,am⟩:=ak.cons_inv;obtain⟨x3,rr'',rfl,ao,ap⟩:=am.cons_inv;have:=ap.eK;subst this;simp only[VR] at hs;obtain⟨l,hl,hd⟩:=hs
      have ar:∃c,x1= .slice (some ⟨l.dz,l.sh+off,none⟩) n c/\n<=c/\off+c*sz=l.cells:=by
       grind
      obtain⟨c,rfl,bb,aa⟩:=ar;have hvv':=ao;simp only[VR] at hvv';obtain⟨lv,aE,_⟩:=hvv'
      have go:∀(cells':List V) (cap:rK) (okc:rK->Nat->Bool),(∀x,gF Y l (.row cells e false) x->gF Y l (.row cells' e false) x)->
        wM vb vc ve e sz (nU P G ih f [.slice b off n cap,i,.slice vb voff 1 (.known mc)]<|ga O b (.row cells' e false) vb (.row vc ve false)) okc=some (u,r1)->
        VR Y (.slice b off n cap) (.slice (some ⟨l.dz,l.sh+off,none⟩) n c)->
        (∀A z B u l1 C x,okc A u=true->1<=u->C z=some l1->VR C (.slice z B u A) x->∃c',x= .slice (some ⟨l1.dz,l1.sh+B,none⟩) u c'/\u<=c'/\B+c'*sz=l1.cells)->
        CallsIn (lH rl) m P f xs w R:=by
       intro cells' cap okc L d a4 a0;unfold wM at d;split at d
       ·rename_i z B bc A σ1 E;split at d
        ·rename_i bd be bf bg g1 gv;rw[bM] at d;split at d
         ·rename_i M;simp only[bA_,nE_,Nat.beq_eq,db] at M;obtain⟨k1,k2,k3,k4,k5,k6,k7,k8⟩:=M;cases d;have N:z≠vb:=fun e=>by subst e;rw[pf] at k2;simp at k2
          have ev:=mh k3;subst ev;subst k4;subst k5;have hiL:=Qi hi (o₁:=.row cells' e false) hb I hl Z L;refine mW hS E hiL hg ?_ rl m fun C w1 x i1 s1 Q=>?_
          ·grind [dA.cons]
          obtain⟨l1,S⟩:∃l1,C z=some l1:=by
           cases A<;>simp only[VR] at Q
           ·grind
           ·grind
           grind
          obtain⟨c',rfl,a1,bi⟩:=a0 A z B u l1 C x k1 k6 S Q;rw[ej,eN] at k8 T;obtain⟨iJ,sJ⟩:=Gs (k:=u*sz) hi hb I hl aE K i1 s1 g1 S gv N X k7 k8;refine T _ w1 _ iJ sJ ?_;simp only[VR];refine⟨_,Ren.cZ _ _ _,.inl ⟨c',Z,a1,?_⟩⟩
          grind
         cases d
        cases d
       cases d
      by_cases a2:c=n
      ·subst a2;refine go cells (.known c) (Gr sz) (fun _ h=>h) ab (by simp only[VR];simp_all) fun A z B u l1 C x h1 h2 h3 h4=>?_
       unfold Gr at h1
       grind [nB,VR]
      have hlt:n+1<=c:=by omega
      refine go (gS (takeN cells (off+n*sz))<|Iu sz .any) (.least (Nat.succ n) sz) (Ck sz) (fun x ho=>?_) ac (by simp only[VR];simp_all) fun A z B u l1 C x h1 h2 h3 h4=>?_
      ·obtain⟨cc,fr,h1,h2,h3,h4,h5⟩:=ho;have hmul:(n+1)*sz<=c*sz:=nM_ _ hlt;have bl:(n+1)*sz=n*sz+sz:=Nat.succ_mul n sz;refine⟨cc,fr,h1,h2,?_,fun j v hv=>?_,h5⟩
       ·rw[ep,ej,zg,lA_,lT_,List.length_replicate];omega
       rw[ep,ej,zg] at hv
       by_cases hj:j<off+n*sz
       ·grind
       have a3:j<(cells.take (off+n*sz)++List.replicate sz V.any).length:=(gA.1 hv).1;rw[lA_,lT_,List.length_replicate] at a3;rw[gR_ (by simp_all),List.getElem?_replicate] at hv;split at hv
       ·cases hv;have:l.sh+j<cc.size:=by omega
        exact⟨cc[l.sh+j],aG_ this,by simp only[VR]⟩
       cases hv
      unfold Ck at h1;split at h1
      ·rename_i a s;rw[bA_,nE_] at h1
       grind [nB,VR]
      cases h1
     cases h
    cases h
   cases h
  cases h
 exact mW hS h hi hg hx rl m T
theorem GR.size (hi:Inv Y O w) (d:GR Y G):G.gl<=w.heap.size:=by
 cases aa:G.gl with
 | zero=>exact Nat.zero_le _
 | succ g=>
  obtain⟨c,u⟩:=d g oM;have:=hi.dz _ _ u;exact this
theorem tP (hi:Inv Y O w) (A:GR Y G):∀(l:List (Nat×List V)),kz G.gl O l=true->∀x∈l,k9 w x
 | [],_,x,hx=>by cases hx
 | y::l,h,x,hx=>by
  have h':(bif Nat.ble (Nat.succ y.1) G.gl then(match O.m.get y.1 with
   | some (.row cells _ true)=>bif fo y.2 then(bif lF cells y.2 then kz G.gl O l else false) else false
   | _=>false) else false)=true:=h
  rw[bM] at h';split at h'
  ·rename_i hlt;rw[nE_] at hlt;split at h'
   ·rename_i cells e hb;rw[bM] at h';split at h'
    ·rename_i hf;rw[bM] at h';split at h'
     ·rename_i he;have:=mh he;subst this;rcases mQ_.1 hx with rfl | hx
      ·obtain⟨cn,B⟩:=A x.1 hlt;obtain⟨c,fr,h1,C,E,I,_⟩:=hi.row hb B;have d:c.size=cn:=by simpa using C
       have u:x.2.length<=cn:=E;refine⟨c,e,fr,h1,by rw[d];exact u,fun i v hv=>?_⟩;obtain⟨z,hz,aa⟩:=I i v hv;simp only[nA_] at hz
       grind [oi,kO]
      exact tP hi A l h' x hx
     cases h'
    cases h'
   cases h'
  cases h'
def OT (O:aB) (g:Nat):TypeId:=
 match O.m.get g with
 | some (.row _ e _)=>e
 | _=>0
theorem yA {gl:Nat}:∀(l:List (Nat×List V)),kz gl O l=true->∀x∈l,O.m.get x.1=some (.row x.2 (OT O x.1) true)
 | [],_,x,hx=>by cases hx
 | y::l,h,x,hx=>by
  have h':(bif Nat.ble (Nat.succ y.1) gl then(match O.m.get y.1 with
   | some (.row cells _ true)=>bif fo y.2 then(bif lF cells y.2 then kz gl O l else false) else false
   | _=>false) else false)=true:=h
  rw[bM] at h';split at h'
  ·split at h'
   ·rename_i cells e hb;rw[bM] at h';split at h'
    ·rw[bM] at h';split at h'
     ·rename_i he;have:=mh he;rcases mQ_.1 hx with rfl | hx
      ·unfold OT;rw[hb,this]
      exact yA l h' x hx
     cases h'
    cases h'
   cases h'
  cases h'
theorem sK (z:Sound P G ih) {f:Nat} {args:List V} {O':aB} {v:V} (h:kP P G ih f args O= .ret v O') (hi:Inv Y O w) (d:GR Y G) (hx:dA Y args xs.toList)
  (rl:Option Nat) (m:Nat) {R:Ending->World->Prop} (A:∀(Y':Ren) (w':World) (x:Value),Inv Y' O' w'->fb Y O w Y' O' w'->VR Y' v x->R (.returned x) w'):CallsIn (lH rl) m P f xs w R:=by
 unfold kP at h;cases hk:G.Gv f args O with
 | some u=>
  rw[hk] at h;obtain⟨uv,us⟩:=u;dsimp only at h;cases h;refine sO rl<|callsIn_wide.2 ?_;refine(z.cx.Gv f args O v O' hk Y w xs hi d hx).mono fun e w' ⟨x,Y',he,hv,i',s'⟩=>?_
  subst he;exact A Y' w' x i' s' hv
 | none=>
 rw[hk] at h;dsimp only at h;cases B:G.NN f args with
 | some u=>
  rw[B] at h;dsimp only at h;rw[bM] at h;split at h
  ·rename_i hf;simp only[bA_] at hf;obtain⟨C,E,I⟩:=hf;cases h;refine sO rl<|callsIn_wide.2 ?_;refine(z.cx.NN f args v B w xs (GR.size hi d) ⟨hi.oI.size,hi.oI.same⟩ (tP hi d _ I)<|vB C hx).mono fun e w' ⟨x,he,hv,hk⟩=>?_
   subst he;obtain⟨i',s'⟩:=hk.inv hi;exact A Y w' x i' s'<|oi E hv
  cases h
 | none=>
  rw[B] at h;dsimp only at h;split at h
  ·cases h
  rw[bM] at h;split at h
  ·have h:=Gz h;unfold LJ at h;rw[bM] at h
   grind [mW,Gk]
  exact mW z h hi d hx rl m A
theorem KX (d:Sound P G ih) {f:Nat} {args:List V} {O':aB} {v:V} (h:kP P G ih f args O= .kE v O') (hi:Inv Y O w) (z:GR Y G) (hx:dA Y args xs.toList)
  (rl:Option Nat) (m:Nat) {R:Ending->World->Prop} (A:∀(Y':Ren) (w':World) (x:Value),Inv Y' O' w'->fb Y O w Y' O' w'->VR Y' v x->R (.panicked [{v:=x,recovered:=false}]) w'):CallsIn (lH rl) m P f xs w R:=by
 unfold kP at h;cases hk:G.Gv f args O with
 | some u=>grind
 | none=>
 rw[hk] at h;dsimp only at h;split at h
 ·grind
 split at h
 ·cases h
 rw[bM] at h;split at h
 ·exact absurd h<|Gy _ _ _
 exact Ai d h (fun n h=>by cases h) hi z hx rl m fun Y' w' E i s ⟨x,B,hv⟩=>by subst B;exact A Y' w' x i s hv
theorem AR (e:Ex) (hp:AQ e=false):(uS e).isNone=Dh e:=by cases e<;>first | rfl | cases hp
theorem UW.OY {e:Ex} {E:Exit} (hp:AQ e=false) (h:UW Y e E):E=Ev.OY e:=by cases e<;>first | exact h | cases hp
theorem G7 {l:Nat} {R:Ending->World->Prop} {e:Ex} (hp:AQ e=false) {a:Act} (h:∃v w',(Instr.endRound l<|uS e).run P w= .ok v w'/\R (.returned v) w'):roundPost P l R (OY e) a w:=by
 cases e<;>first | exact h | cases hp
theorem EX (hS:Sound P G ih) {b:Pos} {l:Loc} {args:List V} {O':aB} {v:V} (h:mG ih b args O= .ret v O') (hi:Inv Y O w) (hg:GR Y G) (hx:dA Y args xs.toList) (hl:Y b=some l)
  (rl:Option Nat) (m:Nat) {R:Ending->World->Prop} (hR:∀(Y':Ren) (w':World) (x:Value),Inv Y' O' w'->fb Y O w Y' O' w'->VR Y' v x->R (.returned x) w'):
  ∃f tmps assign body,(Instr.yield l.dz xs).run P w= .ok (.round l.dz f tmps assign body) w/\RoundIn (lH rl) m P l.dz f tmps assign body w R:=by
 unfold mG at h;cases hb:O.m.get b with
 | none=>rw[hb] at h;cases h
 | some o=>
 rw[hb] at h;cases o with
 | loop state pending tmps n params assign body df=>
  dsimp only at h;cases hp:vj n params args tmps with
  | none=>rw[hp] at h;cases h
  | some t=>
  rw[hp] at h;dsimp only at h;obtain⟨x,hh,fn,tmps',l',rfl,a3,aE⟩:=hi.obj b _ l hb hl;obtain⟨hlen,ht⟩:=tU params args tmps t tmps' xs.toList hp aE hx;refine⟨fn,_,assign,body,run_yield hh (by simpa using hlen.symm),?_⟩
  have L:((params.toArray.zip xs).foldl (fun tmps (t,a)=>tmps.setIfInBounds t a) tmps')=(params.zip xs.toList).foldl (fun tmps (t,a)=>tmps.setIfInBounds t a) tmps':=by
   rw[<-Array.foldl_toList,Array.toList_zip]
  refine roundIn_of_wpIn (ng rl _) ?_;rw[O0];dsimp only;rw[L];cases hc:ih assign t n [] (some b) O with
  | err k=>rw[hc] at h;cases h
  | ok e t₁ d₁ σ₁=>
  rw[hc] at h;cases e with
  | normal=>
   cases d₁ with
   | nil=>
    dsimp only at h;refine hS.run assign t n [] (some b) O _ t₁ [] σ₁ hc Y w _ (some l.dz) m _ hi hg ht Z ⟨l,hl,Z⟩ fun ρ₁ w₁ a₁ hi₁ st₁ ht₁ a0 E hE=>?_
    have hE:E= .normal:=hE;subst hE;have hl₁:=st₁.le hi b l hl;have hg₁:=hg.mono (st₁.le hi);show∃w₂,_;cases hb₁:σ₁.m.get b with
    | none=>rw[hb₁] at h;cases h
    | some o₁=>
    rw[hb₁] at h;cases o₁ with
    | loop K p₁ C n₁ params₁ assign1 z N=>
     cases K with
     | ready=>
      dsimp only at h;obtain⟨x₁,hh₁,Q,A,S,rfl,T,W⟩:=hi₁.obj b _ l hb₁ hl₁;obtain⟨inv₂,st₂⟩:=hi₁.putObj (o':=.loop .busy p₁ C n₁ params₁ assign1 z N) hb₁ hl₁ Z Z (x:=.loop {state:=.busy,pending:=p₁,fn:=Q,tmps:=A,params:=params₁.toArray,assign:=assign1,body:=z,defers:=S.dz}) ⟨Q,A,S,Z,T,W⟩;refine⟨_,run_beginRound hh₁ Z,?_⟩;cases hc₂:ih body t₁ n [] (some b) (σ₁.setObj b (.loop .busy p₁ C n₁ params₁ assign1 z N)) with
      | err k=>rw[hc₂] at h;cases h
      | ok e₂ t₂ d₂ σ₂=>
      rw[hc₂] at h;cases d₂ with
      | cons _ _=>cases h
      | nil=>
      dsimp only at h;cases u:AQ e₂ with
      | true=>rw[u] at h;cases h
      | false=>
      rw[u] at h;simp only[cond_false] at h;refine hS.run body t₁ n [] (some b) _ e₂ t₂ [] σ₂ hc₂ ρ₁ _ a₁ (some l.dz) m _ inv₂ hg₁ ht₁ a0 ⟨l,hl₁,Z⟩ fun Y3 w₃ a₃ hi₃ X a4 a5 E hE=>?_
      have hE:=hE.OY u;subst hE;have hl₃:=X.le inv₂ b l hl₁;cases hb₃:σ₂.m.get b with
      | none=>rw[hb₃] at h;cases h
      | some o₃=>
      rw[hb₃] at h;cases o₃ with
      | loop ap p₃ M n₃ params₃ assign3 I a1=>
       dsimp only at h;cases h;obtain⟨x₃,hh₃,aa,B,ab,rfl,ac,ak⟩:=hi₃.obj b _ l hb₃ hl₃;have ar:(if(uS e₂).isNone then LoopState.ready else .done)=um e₂:=by cases e₂<;>first | rfl | cases u
       obtain⟨am,a2⟩:=hi₃.putObj (o':=.loop (um e₂) (uS e₂) M n₃ params₃ assign3 I a1) hb₃ hl₃ Z Z
        (x:=.loop {state:=um e₂,pending:=uS e₂,fn:=aa,tmps:=B,params:=params₃.toArray,assign:=assign3,body:=I,defers:=ab.dz}) ⟨aa,B,ab,Z,ac,ak⟩
       refine G7 u ⟨.bool<|Dh e₂,_,?_,hR Y3 _ _ am (((st₁.trans st₂).trans X).trans a2) (by simp only[VR])⟩;rw[run_endRound _ hh₃,AR _ u];have ao:(if Dh e₂=true then LoopState.ready else .done)=um e₂:=by rw[<-AR _ u];exact ar
       rw[ao]
      | _=>cases h
     | _=>cases h
    | _=>cases h
   | cons _ _=>cases h
  | _=>cases h
 | _=>cases h
theorem Jo (u:Sound P G ih) {o:Oper} {r:HR} {v:V} {O':aB} (hi:Inv Y O w) (z:GR Y G) (A:zK P Y O w r res) (h:lf P G ih r= .ret v O') (rl:Option Nat) (m:Nat) {a:Act} {next:Act->World->Prop} 
  (hn:∀(Y':Ren) (w':World) (x:Value),Inv Y' O' w'->fb Y O w Y' O' w'->VR Y' v x->next (a.put o.dst x) w'):o.uponIn (lH rl) m P a next Q res:=by
 cases A with
 | val hv d st=>
  cases h;rw[Oper.uponIn_value]
  grind
 | skip d st=>
  cases h;rw[Oper.uponIn_skip];exact hn _ _ _ d st wH
 | enter hv=>
  rw[Oper.uponIn_enter];exact⟨qY rl m,sK u h hi z hv rl _ fun Y' w' x i s q=>hn Y' w' x i s q⟩
 | round hv hl B=>
  subst B
  obtain⟨f,tmps,assign,body,h1,C⟩:=EX u h hi z hv hl rl (m-1) (R:=fun
   | .returned v,w''=>next (a.put o.dst v) w''
   | .panicked chain,w''=>Q (.panic chain) a w''
   | .outgrown,_=>LetsOut Q) (fun Y' w' x i s q=>hn Y' w' x i s q)
  rw[h1,Oper.uponIn_round];exact⟨qY rl m,C⟩
 | kE hv=>cases h
theorem G6 {l:Pos} {args:List V} {v:V} {O':aB}:mG ih l args O≠ .kE v O':=by
 intro h;unfold mG at h
 repeat' (first | (cases h;done) | (rw[bM] at h) | split at h)
theorem OU (u:Sound P G ih) {o:Oper} {r:HR} {v:V} {O':aB} (hi:Inv Y O w) (z:GR Y G) (A:zK P Y O w r res) (h:lf P G ih r= .kE v O') (rl:Option Nat) (m:Nat) {a:Act} {next:Act->World->Prop} 
  (hn:∀(Y':Ren) (w':World) (x:Value),Inv Y' O' w'->fb Y O w Y' O' w'->VR Y' v x->Q (.panic [{v:=x,recovered:=false}]) a w'):o.uponIn (lH rl) m P a next Q res:=by
 cases A with
 | val hv d st=>cases h
 | skip d st=>cases h
 | enter hv=>
  rw[Oper.uponIn_enter];exact⟨qY rl m,KX u h hi z hv rl _ fun Y' w' x i s q=>hn Y' w' x i s q⟩
 | round hv hl hr=>exact absurd h G6
 | kE hv=>
  cases h
  grind [Oper.uponIn_panic,fb.refl]
theorem BX {r:HR} {v:V} {O':aB} (h:lf P G ih r= .kE v O') (n:Nat):r≠ .err n:=by
 intro e;subst e;cases h
theorem Pl (d:Sound P G ih) {ev:Operand->Option V} {o:Oper} {a:Act} {v:V} {O':aB} (hi:Inv Y O w) (u:GR Y G) (z:ER Y ev a.eval o.op) (h:lf P G ih (eo P G ev O o.op)= .kE v O') (rl:Option Nat) (m:Nat) {next:Act->World->Prop} 
  (hn:∀(Y':Ren) (w':World) (x:Value),Inv Y' O' w'->fb Y O w Y' O' w'->VR Y' v x->Q (.panic [{v:=x,recovered:=false}]) a w'):o.wpIn (lH rl) m P a w next Q:=by
 have hne:=BX h;refine⟨fun f _=>ng rl f,?_⟩;rw[Oper.semAt_eq _ _ _<|wa hne];exact OU d hi u (Ey d.cx.ov hi z Z hne) h rl m hn
theorem DY {r:HR} {v:V} {O':aB} (h:lf P G ih r= .ret v O') (n:Nat):r≠ .err n:=by
 intro e;subst e;cases h
theorem Ew (d:Sound P G ih) {ev:Operand->Option V} {o:Oper} {a:Act} {v:V} {O':aB} (hi:Inv Y O w) (u:GR Y G) (z:ER Y ev a.eval o.op) (h:lf P G ih (eo P G ev O o.op)= .ret v O') (rl:Option Nat) (m:Nat) {next:Act->World->Prop} 
  (hn:∀(Y':Ren) (w':World) (x:Value),Inv Y' O' w'->fb Y O w Y' O' w'->VR Y' v x->next (a.put o.dst x) w'):o.wpIn (lH rl) m P a w next Q:=by
 have hne:=DY h;refine⟨fun f _=>ng rl f,?_⟩;rw[Oper.semAt_eq _ _ _<|wa hne];exact Jo d hi u (Ey d.cx.ov hi z Z hne) h rl m hn
theorem uZ {ih:jY} (C:Sound P G ih) {ops:Array Oper} {n m:Nat} {d:List DE} (rl:Option Nat) {Q:Exit->Act->World->Prop} {e:Ex} {t':PT V} {d':List DE} {O':aB}:
  ∀(l:List Oper) (i:Nat),ops.toList.drop i=l->∀(t:PT V) (O:aB) (Y:Ren) (w:World) (a:Act),D8 d (oY P G ih ops n d l t O)= .ok e t' d' O'->Inv Y O w->GR Y G->TR Y t n a.tmps->DR Y d a.defers->
   (∀(Y':Ren) (w':World) (a':Act),Inv Y' O' w'->fb Y O w Y' O' w'->TR Y' t' n a'.tmps->DR Y' d' a'.defers->Qx Q Y' e a' w')->wpOpsIn (lH rl) m P ops Q (List.range' i l.length) a w
 | [],i,hl,t,O,Y,w,a,h,hi,z,u,hd,A=>by
  have h':CR.ok .normal t d O= .ok e t' d' O':=h;cases h';exact A Y w a hi (fb.refl _ _ _) u hd _ Z
 | o::l,i,hl,t,O,Y,w,a,h,hi,z,u,hd,A=>by
  have E:ops[i]? =some o:=by
   rw[<-aT_];have:(ops.toList.drop i)[0]? =some o:=by rw[hl];rfl
   simpa using this
  have B:ops.toList.drop (i+1)=l:=by
   rw[<-zl_,hl];rfl
  have h':D8 d (iy P G ih true ops n o t O<|oY P G ih ops n d l)= .ok e t' d' O':=h;unfold iy at h';simp only[zc_,List.range'_succ,wpOpsIn,E];cases hw:bR ops t o with
  | none=>rw[hw] at h';cases h'
  | some b=>
   rw[hw] at h';rw[Df hw u];cases b with
   | false=>
    dsimp only at h';cases hp:dE t n o.dst unit with
    | none=>rw[hp] at h';cases h'
    | some t₁=>
     rw[hp] at h';simp only[zi_,if_false];exact⟨fun f _=>ng rl f,uZ C rl l (i+1) B t₁ O Y w _ h' hi z (u.put hp wH) (by rw[put_defers];exact hd) A⟩
   | true=>
    dsimp only at h';cases he:lf P G ih (eo P G (bI G t) O o.op) with
    | err k=>rw[he] at h';cases h'
    | kE v σ₁=>
     rw[he] at h';have h':CR.ok (.kE v) t d σ₁= .ok e t' d' O':=h';cases h';simp only[if_true];refine Pl C hi z (QD _ z u) he rl m fun ρ₁ w₁ x hi₁ st₁ hv=>?_
     have hle:=st₁.le hi;exact A ρ₁ w₁ a hi₁ st₁ (u.mono hle) (hd.mono hle) _ ⟨x,Z,hv⟩
    | ret v σ₁=>
     rw[he] at h';dsimp only at h';cases hp:dE t n o.dst v with
     | none=>rw[hp] at h';cases h'
     | some t₁=>
      rw[hp] at h';simp only[if_true];refine Ew C hi z (QD _ z u) he rl m fun ρ₁ w₁ x hi₁ st₁ hv=>?_
      have hle:=st₁.le hi
      exact uZ C rl l (i+1) B t₁ σ₁ ρ₁ w₁ _ h' hi₁ (z.mono hle) ((u.mono hle).put hp hv) (by rw[put_defers];exact hd.mono hle)
       fun Y' w' a' i' s'=>A Y' w' a' i' (st₁.trans s')
end
variable {α:Type} {ops:Array Oper} {j:Nat} {P:Program} {O:aB}
theorem yY {O':aB} (he:∀(b:Pos) (o:cN),O.m.get b=some o->O'.m.get b=some o) {u:Option TypeId} {x:Option V} {v:V} (h:sX P u O x=some v):sX P u O' x=some v:=by
 unfold sX at h⊢
 grind
theorem J5 {ev:Operand->Option V} {O':aB} {op:Op} {v:V} (he:∀b o,O.m.get b=some o->O'.m.get b=some o) (h:gE P ev O op=some v):gE P ev O' op=some v:=by
 cases op with
 | load t x=>
  grind [gE]
 | lookup t x i ok=>
  simp only[gE] at h⊢
  grind
 | call c=>
  grind [gE]
 | convert src dst x=>
  simp only[gE] at h⊢;split at h
  ·grind
  ·split at h
   ·rw[bM] at h⊢;split at h
    ·cases h
    rename_i d;rw[if_neg d];exact yY he h
   cases h
  ·rw[bM] at h⊢;split at h
   ·rename_i d;rw[if_pos d];exact yY he h
   cases h
  cases h
 | _=>exact h
theorem rJ {i:Nat}:waits ops i j=true↔∃o,ops[i]? =some o/\∃e∈o.after,Region.binds .any e=true/\e.on=j:=by
 unfold waits;cases h:ops[i]? with
 | none=>simp
 | some o=>
  simp only[Option.map_some,Option.getD_some,oJ_,exists_eq_left',bA_,beq_iff_eq,Array.any_iff_exists];constructor
  ·grind
  rintro ⟨e,he,h1⟩;obtain⟨q,hq,rfl⟩:=Array.getElem_of_mem he
  grind
structure Shape (P:Program) (ops:Array Oper) (A:Array Nat):Prop where
 dep:∀i j,waits ops i j=true->j<ops.size
 sA:∀i j,i<ops.size->j<ops.size->sA A i j=true->waits ops i j=true∨∃d,waits ops i d=true/\Ev.sA A d j=true
 uniq:∀i j k,fA ops i=some k->fA ops j=some k->i=j
 look:∀(i:Nat) (o:Oper) (j k:Nat),ops[i]? =some o->fA ops j=some k->k∈slotsOf ops o->Ev.sA A i j=true∨(gi P ops i=false/\(j=i∨Ev.sA A j i=true))
 dst:∀(i:Nat) (o:Oper),ops[i]? =some o->gi P ops i=true->∃k,o.dst=some k
theorem mf {i k:Nat} (h:fA ops i=some k):i<ops.size:=by
 grind [fA]
theorem iP {i:Nat} {o:Oper} (h:ops[i]? =some o):fA ops i=o.dst:=by simp[fA,h]
theorem jN (m i:Nat):hasB m i=m.testBit i:=by
 rw[Nat.testBit_eq_decide_div_mod_eq];show Nat.beq ((m >>> i) &&& 1) 1=_
 grind [Nat.shiftRight_eq_div_pow,Nat.beq]
theorem RQ (w:Nat):Nat.beq (Nat.land w 1) 1=w.testBit 0:=by
 have:=jN w 0;exact this
theorem vE (i j:Nat):(bit i).testBit j=decide (i=j):=by
 show(1 <<< i).testBit j=_;rw[Nat.one_shiftLeft,Nat.testBit_two_pow]
theorem ni (m k j:Nat):(Nat.lor m k).testBit j=(m.testBit j || k.testBit j):=Nat.testBit_or m k j
theorem kA {j:Nat}:∀{l:List Nat},(nF l).testBit j=true↔j∈l
 | []=>by simp[nF]
 | i::l=>by
  show(Nat.lor (bit i)<|nF l).testBit j=true↔_;rw[ni,vE,Bool.or_eq_true,kA,mQ_,decide_eq_true_eq]
  grind
theorem Bj {m k:Nat} (h:CV m k=true) (j:Nat) (hj:m.testBit j=true):k.testBit j=true:=by
 have e:m &&& k=m:=nB h
 grind
theorem Hi {m k:Nat} (h:CV m k=false):∃j,m.testBit j=true/\k.testBit j=false:=by
 apply zo_;intro hn
 have e:m &&& k=m:=Nat.eq_of_testBit_eq fun j=>by
  simp_all
 have:CV m k=true:=by
  show Nat.beq (m &&& k) m=true
  simp_all
 simp_all
theorem si {j:Nat}:∀{L:List RA} {w:Nat},(yR L w).testBit j=true->∃d x,L[d]? =some x/\w.testBit d=true/\x.a.testBit j=true
 | [],w,h=>by simp[yR] at h
 | x::L,w,h=>by
  have h':(Nat.lor (@Bool.rec (fun _=>Nat) 0 x.a<|Nat.beq (Nat.land w 1) 1)<|yR L<|w >>> 1).testBit j=true:=h;rw[ni,Bool.or_eq_true,RQ] at h';rcases h' with h' | h'
  ·cases hw:w.testBit 0 with
   | true=>rw[hw] at h';exact⟨0,x,Z,hw,h'⟩
   | false=>
    rw[hw] at h';have h'':(0:Nat).testBit j=true:=h';simp at h''
  obtain⟨d,y,h1,u,z⟩:=si h';rw[Nat.testBit_shiftRight] at u;exact⟨d+1,y,by simpa using h1,by rw[Nat.add_comm];exact u,z⟩
theorem s5:∀(rows:List Row) (L:List RA),(Nf rows L).map (·.r)=L.map (·.r)++rows
 | [],L=>by show L.map (·.r)=_;simp
 | r::rows,L=>by
  show(Nf rows<|gS L [⟨r,Nat.lor r.w<|yR L r.w⟩]).map (·.r)=_
  rw[s5 rows,ep];simp
theorem CI {i:Nat} {o:Oper} (h:ops[i]? =some o):∃x,(jz P ops)[i]? =some x/\x.r=zh P ops o:=by
 have e:=s5 (Ct (zh P ops) ops.toList) [];rw[nj] at e
 have e':((jz P ops).map (·.r))[i]? =some (zh P ops o):=by
  unfold jz;rw[nj,e];simp[h]
 simp_all
theorem Ng {i:Nat} {x:RA} (h:(jz P ops)[i]? =some x):∃o,ops[i]? =some o/\x.r=zh P ops o:=by
 have e:=s5 (Ct (zh P ops) ops.toList) [];rw[nj] at e
 have e':((jz P ops).map (·.r))[i]? =ops[i]?.map (zh P ops):=by
  unfold jz;rw[nj,e];simp
 grind
theorem EZ {i:Nat} {o:Oper} (h:ops[i]? =some o):(zh P ops o).w.testBit j=true↔waits ops i j=true:=by
 rw[rJ];show(nF _).testBit j=true↔_;rw[kA,List.mem_filterMap]
 simp_all
theorem Ab {α:Type} {f:Nat->α->Bool}:∀{l:List α} {i:Nat},allI f l i=true->∀(j:Nat) (x:α),l[j]? =some x->f (i+j) x=true
 | [],i,_,j,x,hx=>by simp at hx
 | y::l,i,h,j,x,hx=>by
  have h': @Bool.rec (fun _=>Bool) false (allI f l (i+1)) (f i y)=true:=h;cases hf:f i y with
  | false=>rw[hf] at h';cases h'
  | true=>
   rw[hf] at h';cases j with
   | zero=>simp at hx;subst hx;exact hf
   | succ j=>
    have:=Ab h' j x (by simpa using hx);rw[show i+(j+1)=i+1+j by omega];exact this
theorem qR {f:Nat->α->Bool} {l:List α} (h:allI f l 0=true) (j:Nat) (x:α) (hx:l[j]? =some x):f j x=true:=by
 have:=Ab h j x hx
 simp_all
theorem mb {a b:Bool} (h:(bif a then b else false)=true):a=true/\b=true:=by cases a<;>simp_all
def BE (P:Program) (ops:Array Oper):Array Nat:=((jz P ops).map (·.a)).toArray
theorem tw {i:Nat} {x:RA} (h:(jz P ops)[i]? =some x):sA (BE P ops) i j=x.a.testBit j:=by
 unfold sA BE
 simp_all
theorem Ee {i:Nat} {o:Oper} (h:ops[i]? =some o):jO P ops i=(zh P ops o).h:=by unfold jO;rw[h];rfl
theorem yE {i:Nat} {o:Oper} (h:ops[i]? =some o):gi P ops i=(zh P ops o).k:=by unfold gi;rw[h];rfl
theorem GU {i:Nat} {x y:RA} (h:MT i x j y=true) (hd:y.r.dm=nF y.r.d.toList):EG i x j y=true:=by
 unfold MT at h;cases hb:Nat.beq (Nat.land (Nat.lor x.r.dm x.r.s) y.r.dm) 0 with
 | false=>rw[hb] at h;exact h
 | true=>
  have e:(x.r.dm ||| x.r.s) &&& y.r.dm=0:=nB hb;unfold EG;cases hy:y.r.d with
  | none=>rfl
  | some k=>
   have hk:y.r.dm.testBit k=true:=by rw[hd,hy];exact kA.2 (by simp)
   have h0:((x.r.dm ||| x.r.s) &&& y.r.dm).testBit k=false:=by simp_all
   rw[Nat.testBit_and,hk,Bool.and_true,Nat.testBit_or,Bool.or_eq_false_iff] at h0
   grind [jN]
theorem Nx (h:Nw (jz P ops) ops.size=true):Shape P ops (BE P ops):=by
 have key:∀i o,ops[i]? =some o->∃x,(jz P ops)[i]? =some x/\x.r=zh P ops o/\x.r.w<2 ^ ops.size/\(x.r.k=true->x.r.d.isSome=true)/\CV x.a (Nat.lor x.r.w<|yR (jz P ops) x.r.w)=true/\
   ∀j y,(jz P ops)[j]? =some y->EG i x j y=true:=by
  intro i o u;obtain⟨x,hx,z⟩:=CI (P:=P) u;have h1:=qR h i x hx;obtain⟨N,h1⟩:=mb h1;obtain⟨k2,h1⟩:=mb h1;obtain⟨Q,h1⟩:=mb h1;refine⟨x,hx,z,?_,fun hk=>?_,Q,fun j y hy=>GU (qR h1 j y hy) (by obtain⟨o',_,B⟩:=Ng hy;rw[B];rfl)⟩
  ·rw[tA] at N;have:bit ops.size=2 ^ ops.size:=Nat.one_shiftLeft _;omega
  simp_all
 have pair:∀i o j o' k,ops[i]? =some o->ops[j]? =some o'->o'.dst=some k->(o.dst=some k->j=i)/\(k∈slotsOf ops o->sA (BE P ops) i j=true∨(gi P ops i=false/\(j=i∨sA (BE P ops) j i=true))):=by
  intro i o j o' k u E hk;obtain⟨x,hx,z,_,_,_,hp⟩:=key i o u;obtain⟨y,hy,B⟩:=CI (P:=P) E;have h1:=hp j y hy;unfold EG at h1;have hd:y.r.d=some k:=by rw[B];exact hk
  rw[hd] at h1;have G:(bif (bif hasB x.r.dm k then Nat.beq j i else true) then(bif hasB x.r.s k then(bif hasB x.a j then true else(bif x.r.k then false else(bif Nat.beq j i then true else hasB y.a i))) else true) else false)=true:=h1;obtain⟨g1,A⟩:=mb G;refine⟨fun I=>?_,fun K=>?_⟩
  ·have:hasB x.r.dm k=true:=by
    rw[jN,z];show(nF o.dst.toList).testBit k=true;rw[kA,I];simp
   simp_all
  have:hasB x.r.s k=true:=by
   rw[jN,z];exact kA.2 K
  rw[this] at A;simp only[cond_true] at A;rw[tw hx,tw hy,yE (P:=P) u,<-z];cases C:hasB x.a j with
  | true=>rw[jN] at C;exact .inl C
  | false=>
   rw[C] at A;simp only[cond_false] at A;cases L:x.r.k with
   | true=>simp_all
   | false=>
    rw[L] at A;simp only[cond_false] at A;cases hb:Nat.beq j i with
    | true=>simp_all
    | false=>rw[hb] at A;rw[jN] at A;simp_all
 refine⟨fun i j hw=>?_,fun i j hi hj C=>?_,fun i j k hi hj=>?_,fun i o j k u hj hk=>?_,fun i o u hl=>?_⟩
 ·obtain⟨o,u,_⟩:=rJ.1 hw;obtain⟨x,hx,z,hlt,_⟩:=key i o u;have:x.r.w.testBit j=true:=by rw[z];exact(EZ u).2 hw
  apply zo_
  grind [Nat.testBit_lt_two_pow,zh_,Nat.pow_le_pow_right]
 ·have u:ops[i]? =some ops[i]:=aG_ hi;obtain⟨x,hx,z,_,_,K,_⟩:=key i _ u;rw[tw hx] at C;have h1:=Bj K j C;rw[ni,Bool.or_eq_true] at h1;rcases h1 with h1 | h1
  ·rw[z] at h1;exact .inl ((EZ u).1 h1)
  obtain⟨d,y,hy,M,R⟩:=si h1;rw[z] at M;exact .inr ⟨d,(EZ u).1 M,by rw[tw hy];exact R⟩
 ·have hi':=mf hi;have hj':=mf hj;have u:ops[i]? =some ops[i]:=aG_ hi'
  grind [iP]
 ·grind [mf,iP]
 obtain⟨x,hx,z,_,hd,_⟩:=key i o u;rw[yE (P:=P) u,<-z] at hl;have:=hd hl;rw[z] at this;exact ze_.1 this
def Ord (ops:Array Oper):List Nat->Prop
 | []=>True
 | i::r=>(∀j,waits ops i j=true->j∈r)/\Ord ops r
structure KG (P:Program) (ops:Array Oper) (A:Array Nat) (i:Nat) (rc:List Nat) (done:List Nat):Prop where
 lt:i<ops.size
 new:i∉done
 dep:∀j,waits ops i j=true->j∈done
 again:jO P ops i=true->∀j∈done,gi P ops j=true->sA A i j=true∨j∈rc
 alone:jO P ops i=true->∀j,j<ops.size->j∉done->j≠i->∃e,waits ops j e=true/\e∉done
def Hw (P:Program) (ops:Array Oper) (A:Array Nat):List (Nat×List Nat)->List Nat->Prop
 | [],done=>∀i,i<ops.size->i∈done
 | (i,rc)::l,done=>KG P ops A i rc done/\Hw P ops A l (i::done)
theorem xD {P:Program} {ops:Array Oper}:∀(p:List (Nat×List Nat)) (D_:Nat) (done:List Nat),(∀j,D_.testBit j=true↔j∈done)->FY (jz P ops) ops.size p D_=true->Hw P ops (BE P ops) p done
 | [],D_,done,B,h=>fun i hi=>by
  have e:D_=bit ops.size-1:=nB h;rw[<-B,e,show bit ops.size=2 ^ ops.size from Nat.one_shiftLeft _,Nat.testBit_two_pow_sub_one]
  simp_all
 | (i,rc)::l,D_,done,B,h=>by
  have h':Option.rec (motive:=fun _=>Bool) false (fun x=>bif LP (jz P ops) i rc D_ x then FY (jz P ops) ops.size l (Nat.lor D_<|bit i) else false) (nth (jz P ops) i)=true:=h;rw[fY] at h';cases hx:(jz P ops)[i]? with
  | none=>simp_all
  | some x=>
  rw[hx] at h';obtain⟨h1,K⟩:=mb h';obtain⟨o,E,I⟩:=Ng hx;have hlt:=(aS_.1 E).1;unfold LP at h1;cases hi:hasB D_ i with
  | true=>simp_all
  | false=>
  rw[hi] at h1;obtain⟨hw,C⟩:=mb h1;refine⟨⟨hlt,fun hm=>?_,fun j hj=>?_,fun hh j hj hl=>?_,fun hh j hj hn hne=>?_⟩,xD l _ (i::done) (fun j=>?_) K⟩
  ·rw[jN] at hi
   grind
  ·grind [Bj,EZ]
  ·rw[Ee (P:=P) E,<-I] at hh;rw[hh] at C
   have z:∃o',ops[j]? =some o':=by
    cases d:ops[j]? with
    | some o'=>exact⟨o',Z⟩
    | none=>unfold gi at hl;simp_all
   obtain⟨o',d⟩:=z;obtain⟨y,hy,A⟩:=CI (P:=P) d;have h4:=qR C j y hy;have u:hasB D_ j=true:=by rw[jN];exact(B j).2 hj
   rw[u] at h4;simp only[cond_true] at h4;rw[tw hx];cases G:hasB x.a j with
   | true=>rw[jN] at G;exact .inl G
   | false=>
    rw[G] at h4;rw[yE (P:=P) d,<-A] at hl;rw[hl] at h4;simp only[cond_true,cond_false] at h4;rw[jN] at h4;exact .inr<|kA.1 h4
  ·rw[Ee (P:=P) E,<-I] at hh;rw[hh] at C;have d:ops[j]? =some ops[j]:=aG_ hj;obtain⟨y,hy,A⟩:=CI (P:=P) d;have h4:=qR C j y hy
   have u:hasB D_ j=false:=by
    grind [jN]
   rw[u] at h4;simp only[cond_false] at h4;cases hb:Nat.beq j i with
   | true=>simp_all
   | false=>
    rw[hb] at h4;simp only[cond_false] at h4
    grind [Hi,EZ]
  rw[ni,vE,Bool.or_eq_true,B,mQ_,decide_eq_true_eq]
  grind
theorem OZ (h:uO P ops=true):Shape P ops (BE P ops)/\Hw P ops (BE P ops) (lj P ops) []:=by
 obtain⟨h1,h2⟩:=mb h
 grind [Nx,xD]
variable {listed:Array Bool} {ti:PT V}
def Li (listed:Array Bool) (i:Nat):Prop:=listed.getD i false=true
theorem My {i:Nat} (hi:i<listed.size):listed.getD i true=false↔¬Li listed i:=by
 simp[Li,Array.getD_eq_getD_getElem?,hi]
theorem FJ {i:Nat} (hi:i<listed.size):Li (listed.setIfInBounds i true) j↔j=i∨Li listed j:=by
 unfold Li;simp only[Array.getD_eq_getD_getElem?,Array.getElem?_setIfInBounds]
 grind
def dz:V->Option Pos
 | .ptr b _=>some b
 | .slice b _ _ _=>some b
 | .map b=>some b
 | _=>none
theorem BI (mk:Mk) (b:Pos):dz (mk.of b)=some b:=by cases mk<;>rfl
def mU (P:Program) (G:Cx) (t:PT V) (O:aB) (Y:Ren) (lo:Nat) (ti:PT V) (o:Oper):Prop:=
 match kindOf P o.op with
 | .pure=>∃v,eh P (bI G ti) o.op=some v/\∀k,o.dst=some k->t.get (posOf k)=some v
 | .read=>∃v,gE P (bI G ti) O o.op=some v/\∀k,o.dst=some k->t.get (posOf k)=some v
 | .alloc=>∃ob mk b,fP P (bI G ti) o.op=some (ob,mk)/\O.m.get b=some ob/\Y b=none/\lo<=b.num/\b.num<O.next.num/\∀k,o.dst=some k->t.get (posOf k)=some (mk.of b)
 | .kT=>False
def rL (P:Program) (G:Cx) (ops:Array Oper) (A:Array Nat) (t₀ t:PT V) (O:aB) (Y:Ren) (lo:Nat) (i:Nat):Prop:=
 ∃o ti,ops[i]? =some o/\
  (∀k∈slotsOf ops o,∀j,sA A i j=true->fA ops j=some k->ti.get (posOf k)=t.get (posOf k))/\
  (∀k∈slotsOf ops o,(∀j,fA ops j=some k->sA A i j=false)->ti.get (posOf k)=t₀.get (posOf k))/\
  ∃bw,bR ops ti o=some bw/\(bw=false->∀k,o.dst=some k->t.get (posOf k)=some unit)/\(bw=true->mU P G t O Y lo ti o)
section
variable {P:Program} {G:Cx} {ops:Array Oper} {A:Array Nat} {t₀ t t₁:PT V} {O σ₁:aB} {Y ρ₁:Ren} {lo i:Nat}
theorem yg {o:Oper} {want:Bool} {k:Nat} (d:o.guard=some (j,want)) (hk:(ops[j]?).bind (·.dst)=some k):k∈slotsOf ops o:=by
 unfold slotsOf;rw[d];simp[hk]
theorem Cv {o:Oper} {k:Nat} (h:Operand.tmp k∈o.op.operands):k∈slotsOf ops o:=by
 unfold slotsOf;refine List.mem_append_left _<|List.mem_filterMap.2 ⟨.tmp k,by simpa using h,Z⟩
theorem kN {o:Oper} {tj:PT V} (h:∀k∈slotsOf ops o,ti.get (posOf k)=tj.get (posOf k)):bR ops ti o=bR ops tj o:=by
 grind [bR,yg]
theorem rL.agree (hp:rL P G ops A t₀ t O Y lo i) (h:∀k,(fA ops i=some k∨∃j,sA A i j=true/\fA ops j=some k)->t₁.get (posOf k)=t.get (posOf k)):rL P G ops A t₀ t₁ O Y lo i:=by
 obtain⟨o,ti,d,h1,z,bw,B,C,h5⟩:=hp;have hd:∀k,o.dst=some k->t₁.get (posOf k)=t.get (posOf k):=fun k hk=>h k (.inl (by rw[iP d];exact hk))
 refine⟨o,ti,d,fun k hk j u hj=>(h1 k hk j u hj).trans (h k (.inr ⟨j,u,hj⟩)).symm,z,bw,B,fun hb k hk=>(hd k hk).trans (C hb k hk),fun hb=>?_⟩
 grind [mU]
theorem rL.grow (hp:rL P G ops A t₀ t O Y lo i) (h:∀b o,O.m.get b=some o->σ₁.m.get b=some o) (hn:O.next.num<=σ₁.next.num):rL P G ops A t₀ t σ₁ Y lo i:=by
 obtain⟨o,ti,d,h1,u,bw,z,B,h5⟩:=hp;refine⟨o,ti,d,h1,u,bw,z,B,fun hb=>?_⟩
 grind [mU,J5]
theorem rL.WY (hp:rL P G ops A t₀ t O Y lo i) (u:Shape P ops A) (h:∀b,(∃o k v,ops[i]? =some o/\kindOf P o.op= .alloc/\fA ops i=some k/\t.get (posOf k)=some v/\dz v=some b)->Y b=none->ρ₁ b=none):rL P G ops A t₀ t O ρ₁ lo i:=by
 obtain⟨o,ti,d,h1,z,bw,B,C,h5⟩:=hp;refine⟨o,ti,d,h1,z,bw,B,C,fun hb=>?_⟩;have:=h5 hb;unfold mU at this⊢;split at this
 ·exact this
 ·exact this
 ·rename_i hk;obtain⟨ob,mk,b,g1,g2,g3,g4,g5,g6⟩:=this;obtain⟨k,aa⟩:=u.dst i o d (by simp[gi,uV,d,hk])
  grind [iP,BI]
 exact this
theorem rL.again (hp:rL P G ops A t₀ t O Y lo i) (R:Shape P ops A) (h:∀k,(fA ops i=some k∨∃j,sA A i j=true/\fA ops j=some k)->t₁.get (posOf k)=t.get (posOf k))
  (h0:∀k,(∀j,fA ops j≠some k)->t₁.get (posOf k)=t₀.get (posOf k)) (z:gi P ops i=true->kF P G ops t₁ σ₁ i=true)
  (hr:∀b:Pos,b.num<O.next.num->ρ₁ b=Y b) (hn:O.next.num<=σ₁.next.num):rL P G ops A t₀ t₁ σ₁ ρ₁ lo i:=by
 have hp₁:=hp.agree h;obtain⟨o,ti,B,h1,I,bw,E,S,h5⟩:=hp₁;cases hb:bw with
 | false=>exact⟨o,ti,B,h1,I,bw,E,S,fun K=>absurd K (by rw[hb];simp)⟩
 | true=>
  have hv:=h5 hb;subst hb;cases hk:kindOf P o.op with
  | pure=>
   refine⟨o,ti,B,h1,I,true,E,S,fun _=>?_⟩
   grind [mU]
  | kT=>unfold mU at hv;simp_all
  | read=>
   have hl:gi P ops i=true:=by simp[gi,uV,B,hk]
   have u:∀k∈slotsOf ops o,t₁.get (posOf k)=ti.get (posOf k):=fun k d=>by
    by_cases hw:∃j,fA ops j=some k
    ·obtain⟨j,hj⟩:=hw;rcases R.look i o j k B hj d with L | ⟨M,_⟩
     ·grind
     simp_all
    simp_all
   have ar:=z hl;unfold kF at ar;rw[B] at ar;dsimp only at ar;rw[kN u,E] at ar;dsimp only at ar;refine⟨o,t₁,B,fun _ _ _ _ _=>Z,fun k d hj=>(u k d).trans (I k d hj),true,by rw[kN u];exact E,fun h'=>(by cases h'),fun _=>?_⟩
   grind [mU,wJ]
  | alloc=>
   have hl:gi P ops i=true:=by simp[gi,uV,B,hk]
   have u:∀k∈slotsOf ops o,t₁.get (posOf k)=ti.get (posOf k):=fun k d=>by
    by_cases hw:∃j,fA ops j=some k
    ·obtain⟨j,hj⟩:=hw;rcases R.look i o j k B hj d with L | ⟨M,_⟩
     ·grind
     simp_all
    simp_all
   have ar:=z hl;unfold kF at ar;rw[B] at ar;dsimp only at ar;rw[kN u,E] at ar;dsimp only at ar;refine⟨o,t₁,B,fun _ _ _ _ _=>Z,fun k d hj=>(u k d).trans (I k d hj),true,by rw[kN u];exact E,fun h'=>(by cases h'),fun _=>?_⟩;unfold mU at hv⊢;rw[hk] at hv⊢;dsimp only at hv⊢;obtain⟨ob,mk,b,g1,g2,g3,g4,g5,T⟩:=hv;split at ar
   ·rename_i k N;have g6':=T k N;rw[g6'] at ar;dsimp only at ar;rw[hk] at ar;dsimp only at ar;have ab:ρ₁ b=none:=by simp_all
    split at ar
    ·rename_i cs e b' L C;split at ar
     ·rename_i cs' e' Q;rw[bA_] at ar;have e1:=nB ar.1;have e2:=qT ar.2;subst e1;subst e2;have aa:b'=b:=by cases mk<;>simp[Mk.of] at C<;>exact C.symm
      grind [Mk.of]
     cases ar
    ·rename_i cs e n c b' n' c' L C;split at ar
     ·rename_i cs' e' Q;simp only[bA_] at ar;have e1:=nB ar.1.1.1;have e2:=qT ar.1.1.2;have e3:=nB ar.1.2;have e4:=nB ar.2;subst e1;subst e2;subst e3;subst e4;have ac:b'=b/\mk= .slice n c:=by cases mk<;>simp[Mk.of] at C<;>(simp_all)
      grind
     cases ar
    cases ar
   cases ar
end
theorem mD {t t₁:PT V} {n:Nat} {dst:Option Nat} {v:V} (h:dE t n dst v=some t₁):
  (∀k,dst≠some k->t₁.get (posOf k)=t.get (posOf k))/\(∀k,dst=some k->k<n/\t₁.get (posOf k)=some v):=by
 cases dst with
 | none=>cases h;simp_all
 | some j=>
  obtain⟨hj,rfl⟩:=ry h;refine⟨fun k hk=>PT.dL _ _ _ _ (fun e=>hk (by rw[rp e])),fun k hk=>?_⟩;cases hk;exact⟨hj,PT.dY _ _ _⟩
theorem Na {a:Act} {dst:Option Tmp} {x:Value}:(∀k,dst≠some k->(a.put dst x).tmps.getD k undef=a.tmps.getD k undef)/\(∀k,dst=some k->k<a.tmps.size->(a.put dst x).tmps.getD k undef=x)/\(a.put dst x).tmps.size=a.tmps.size:=by
 cases dst with
 | none=>exact⟨fun _ _=>Z,(fun k hk=>by cases hk),Z⟩
 | some j=>
  refine⟨fun k hk=>?_,fun k hk hlt=>?_,by simp[Act.put]⟩
  ·have:j≠k:=fun e=>hk (by rw[e])
   simp[Act.put,Array.getD_eq_getD_getElem?,Array.getElem?_setIfInBounds,this]
  cases hk;simp[Act.put,Array.getD_eq_getD_getElem?,Array.getElem?_setIfInBounds,hlt]
variable {rc:List Nat} {t₁:PT V}
theorem dD {x y:α} {l:List α} (h:x∈y::l):x=y∨x∈l:=mQ_.1 h
structure J_ (P:Program) (G:Cx) (ih:jY) (ops:Array Oper) (A:Array Nat) (n:Nat) (d:List DE) (fin:CR) (ρ₀:Ren) (σ₀:aB) (w₀:World) (t₀:PT V)
  (l:List (Nat×List Nat)) (done:List Nat) (t:PT V) (O:aB) (listed:Array Bool) (Y:Ren) (w:World) (a:Act):Prop where
 run:ki P G ih ops n d l t O=fin
 ok:Hw P ops A l done
 inv:Inv Y O w
 Q0:fb ρ₀ σ₀ w₀ Y O w
 dr:DR Y d a.defers
 gr:GR Y G
 Q3:a.tmps.size=n
 Oi:listed.size=ops.size
 Ro:∀i∈done,i<ops.size
 ord:Ord ops done
 sub:∀i,Li listed i->i∈done
 kT:∀i∈done,jO P ops i=true->Li listed i
 closed:∀i j,j<ops.size->Li listed i->sA A i j=true->Li listed j
 lE:∀i j,j<ops.size->i∈done->sA A i j=true->j∈done
 SC:∀i∈done,∀k,fA ops i=some k->k<n
 E7:∀i k v,Li listed i->fA ops i=some k->t.get (posOf k)=some v->VR Y v (a.tmps.getD k undef)
 E6:∀k v,(∀i,Li listed i->fA ops i≠some k)->t₀.get (posOf k)=some v->k<n/\VR Y v (a.tmps.getD k undef)
 same:∀k,(∀i∈done,fA ops i≠some k)->t.get (posOf k)=t₀.get (posOf k)
 EH:∀i∈done,¬Li listed i->rL P G ops A t₀ t O Y σ₀.next.num i
 apart:∀i j o o' k k' v v' b,i∈done->j∈done->¬Li listed i->¬Li listed j->ops[i]? =some o->ops[j]? =some o'->kindOf P o.op= .alloc->kindOf P o'.op= .alloc->
  fA ops i=some k->fA ops j=some k'->t.get (posOf k)=some v->t.get (posOf k')=some v'->dz v=some b->dz v'=some b->i=j
section
variable {P:Program} {G:Cx} {ih:jY} {ops:Array Oper} {A:Array Nat} {n:Nat} {d:List DE} {fin:CR} {ρ₀:Ren} {σ₀:aB} {w₀:World} {t₀:PT V}
variable {l:List (Nat×List Nat)} {done:List Nat} {t:PT V} {O:aB} {listed:Array Bool} {Y:Ren} {w:World} {a:Act}
theorem xp (u:Shape P ops A) {i:Nat} (hi:i<ops.size) (hw:∀j,waits ops i j=true->j∈done) (hd:∀i j,j<ops.size->i∈done->sA A i j=true->j∈done):∀j,j<ops.size->sA A i j=true->j∈done:=fun j hj z=>by
 rcases u.sA i j hi hj z with h | ⟨q,h1,h2⟩
 ·exact hw j h
 grind
theorem xq (u:Shape P ops A) {i:Nat} (hi:i<ops.size) (hw:∀j,waits ops i j=true->Li listed j) (hd:∀i j,j<ops.size->Li listed i->sA A i j=true->Li listed j):∀j,j<ops.size->sA A i j=true->Li listed j:=fun j hj z=>by
 rcases u.sA i j hi hj z with h | ⟨q,h1,h2⟩
 ·exact hw j h
 grind
theorem J_.yh (C:Shape P ops A) (hj:J_ P G ih ops A n d fin ρ₀ σ₀ w₀ t₀ l done t O listed Y w a) {i:Nat} {o:Oper} (B:ops[i]? =some o) (hn:i∉done):
  ∀k∈slotsOf ops o,(∀j,fA ops j=some k->sA A i j=false)->t.get (posOf k)=t₀.get (posOf k):=fun k hk aa=>by
 refine hj.same k fun j u z=>?_
 rcases C.look i o j k B z hk with h | ⟨_,h | h⟩
 ·simp_all
 ·subst h;exact hn u
 exact hn<|hj.lE j i (aS_.1 B).1 u h
theorem J_.look (E:Shape P ops A) (hj:J_ P G ih ops A n d fin ρ₀ σ₀ w₀ t₀ l done t O listed Y w a) {i:Nat} {o:Oper} {ti:PT V} (B:ops[i]? =some o) (hn:¬Li listed i) (I:∀j,j<ops.size->sA A i j=true->Li listed j)
  (h1:∀k∈slotsOf ops o,∀j,sA A i j=true->fA ops j=some k->ti.get (posOf k)=t.get (posOf k)) (K:∀k∈slotsOf ops o,(∀j,fA ops j=some k->sA A i j=false)->ti.get (posOf k)=t₀.get (posOf k)):
  ∀k∈slotsOf ops o,∀v,ti.get (posOf k)=some v->k<n/\VR Y v (a.tmps.getD k undef):=fun k hk v hv=>by
 by_cases hw:∃j,fA ops j=some k/\sA A i j=true
 ·obtain⟨j,u,C⟩:=hw;have hL:=I j (mf u) C;rw[h1 k hk j C u] at hv;exact⟨hj.SC j (hj.sub j hL) k u,hj.E7 j k v hL u hv⟩
 have z:∀j,fA ops j=some k->sA A i j=false:=fun j u=>by
  simp_all
 rw[K k hk z] at hv;refine hj.E6 k v (fun j hL u=>?_) hv;rcases E.look i o j k B u hk with h | ⟨_,h | h⟩
 ·simp_all
 ·subst h;exact hn hL
 exact hn<|hj.closed j i (aS_.1 B).1 hL h
theorem H3 {o:Oper} (u:GR Y G) (h:∀k∈slotsOf ops o,∀v,ti.get (posOf k)=some v->k<n/\VR Y v (a.tmps.getD k undef)):ER Y (bI G ti) a.eval o.op:=fun x hx v hv=>by
 cases x with
 | tmp k=>exact(h k (Cv hx) v hv).2
 | const c=>exact jg (t:=.leaf) (n:=a.tmps.size) u ⟨Z,fun k v hk=>by rw[PT.ml] at hk;cases hk⟩ hv
 | global g=>exact jg (t:=.leaf) (n:=a.tmps.size) u ⟨Z,fun k v hk=>by rw[PT.ml] at hk;cases hk⟩ hv
 | func f=>exact jg (t:=.leaf) (n:=a.tmps.size) u ⟨Z,fun k v hk=>by rw[PT.ml] at hk;cases hk⟩ hv
theorem v8 {o:Oper} {b:Bool} (u:a.tmps.size=n) (h:∀k∈slotsOf ops o,∀v,ti.get (posOf k)=some v->k<n/\VR Y v (a.tmps.getD k undef)) (hw:bR ops ti o=some b):Region.wanted o (yielded ops a.tmps)=b:=
 Bs hw fun j want k z hk v hv=>by
  have:=h k (yg z hk) v hv;rw[u];exact this
theorem J_.ahead (X:Shape P ops A) {i:Nat} (hj:J_ P G ih ops A n d fin ρ₀ σ₀ w₀ t₀ ((i,rc)::l) done t O listed Y w a) (hl:jO P ops i=false) {o:Oper} (ho:ops[i]? =some o) {v:V} 
  (hp:dE t n o.dst v=some t₁) (E:ki P G ih ops n d l t₁ σ₁=fin) (hinv:Inv Y σ₁ w) (ar:fb Y O w Y σ₁ w) (I:∀b o,O.m.get b=some o->σ₁.m.get b=some o)
  (hblk:∀b,dz v=some b->kindOf P o.op= .alloc->O.next.num<=b.num) (ab:rL P G ops A t₀ t₁ σ₁ Y σ₀.next.num i):J_ P G ih ops A n d fin ρ₀ σ₀ w₀ t₀ l (i::done) t₁ σ₁ listed Y w a:=by
 obtain⟨hh,R⟩:=hj.ok;obtain⟨f1,f2⟩:=mD hp;have K:fA ops i=o.dst:=iP ho;have ak:¬Li listed i:=fun h=>hh.new (hj.sub i h)
 have z:∀j∈done,∀k,fA ops j=some k->t₁.get (posOf k)=t.get (posOf k):=fun j B k hk=>f1 k fun e=>by
  have:=X.uniq i j k (by rw[K];exact e) hk;subst this;exact hh.new B
 have aa:∀j∈done,¬Li listed j->rL P G ops A t₀ t₁ σ₁ Y σ₀.next.num j:=fun j B C=>by
  refine((hj.EH j B C).agree fun k hk=>?_).grow I ar.next;rcases hk with hk | ⟨q,hq,hk⟩
  ·grind
  exact z q (hj.lE j q (mf hk) B hq) k hk
 have ac:∀j o' k' v' b,j∈done->¬Li listed j->ops[j]? =some o'->kindOf P o'.op= .alloc->fA ops j=some k'->t₁.get (posOf k')=some v'->dz v'=some b->b.num<O.next.num:=fun j o' k' v' b B C L hk hd hv hb=>by
  obtain⟨o'',ti,e,_,_,bw,_,S,h5⟩:=hj.EH j B C;rw[L] at e;cases e;rw[z j B k' hd] at hv;rw[iP L] at hd;cases bw with
  | false=>rw[S Z k' hd] at hv;cases hv;cases hb
  | true=>
   have:=h5 Z
   grind [mU,BI]
 refine⟨E,R,hinv,hj.Q0.trans ar,hj.dr,hj.gr,hj.Q3,hj.Oi,fun j h=>?_,⟨hh.dep,hj.ord⟩,fun j h=>mC_ _ (hj.sub j h),fun j h hv=>?_,hj.closed,fun j q hq h ha=>?_,fun j h k hk=>?_,fun j k u hL hk hu=>?_,hj.E6,fun k hk=>?_,fun j h C=>?_,?_⟩
 ·rcases dD h with rfl | h
  ·exact hh.lt
  exact hj.Ro j h
 ·rcases dD h with rfl | h
  ·simp_all
  exact hj.kT j h hv
 ·rcases dD h with rfl | h
  ·exact mC_ _<|xp X hh.lt hh.dep hj.lE q hq ha
  exact mC_ _<|hj.lE j q hq h ha
 ·rcases dD h with rfl | h
  ·simp_all
  exact hj.SC j h k hk
 ·rw[z j (hj.sub j hL) k hk] at hu;exact hj.E7 j k u hL hk hu
 ·rw[f1 k (fun e=>hk i (mS_ ..) (by rw[K];exact e))];exact hj.same k fun j h=>hk j (mC_ _ h)
 ·grind
 intro j q o' o'' k k' u u' b h1 h2 h3 S h5 h6 h7 h8 h9 M N Q T W;rcases dD h1 with rfl | m1<;>rcases dD h2 with rfl | m2
 ·rfl
 ·grind
 ·grind
 rw[z j m1 k h9] at N;rw[z q m2 k' M] at Q;exact hj.apart j q o' o'' k k' u u' b m1 m2 h3 S h5 h6 h7 h8 h9 M N Q T W
theorem Inv.FM (hi:Inv Y O w) (ob:cN):BC Y (O.alloc ob) w/\fb Y O w Y (O.alloc ob) w/\∀b o,O.m.get b=some o->(O.alloc ob).m.get b=some o:=by
 have aa:Y O.next=none:=(hi.fresh _<|nR_ _).1;have u:∀b,b≠O.next->(O.alloc ob).m.get b=O.m.get b:=fun b hb=>PT.dL _ _ _ _ hb
 have back:∀b o l,(O.alloc ob).m.get b=some o->Y b=some l->O.m.get b=some o:=fun b o l h hl=>by
  grind
 refine⟨⟨fun b hb=>?_,hi.dz,fun b o l h hl=>hi.obj b o l (back b o l h hl) hl,fun b b' o o' l l' h1 B z C=>hi.inj b b' o o' l l' (back b o l h1 z) (back b' o' l' B C) z C⟩,⟨fun _ _=>Z,?_,nR_ _,fun _ _ _=>Z,?_,Z,Z,Z,nR_ _⟩,fun b o h=>?_⟩
 ·have ab:O.next.num+1<=b.num:=by simpa [aB.alloc,Pos.iT] using hb
  have hne:b≠O.next:=fun e=>by subst e;omega
  rw[u b hne];exact hi.fresh b oM
 ·simp[aB.alloc,Pos.iT]
 ·rintro r ⟨b,o,l,h1,B,z,rfl⟩ _;exact⟨b,o,l,back b o l h1 z,B,z,Z⟩
 by_cases e:b=O.next
 ·subst e;rw[(hi.fresh _<|nR_ _).2] at h;cases h
 simp_all
theorem Inv.ahead (hi:Inv Y O w) (ob:cN):Inv Y (O.alloc ob) w/\fb Y O w Y (O.alloc ob) w/\∀b o,O.m.get b=some o->(O.alloc ob).m.get b=some o:=
 let ⟨h1,u,z⟩:=hi.FM ob;⟨⟨h1,hi.oI.of u⟩,u,z⟩
theorem aB.JB (O:aB) (ob:cN):(O.alloc ob).m.get O.next=some ob:=PT.dY _ _ _
theorem J_.Ti (E:Shape P ops A) {i:Nat} (hj:J_ P G ih ops A n d fin ρ₀ σ₀ w₀ t₀ ((i,rc)::l) done t O listed Y w a) (hl:jO P ops i=false) (aa:∀k,fin≠ .err k):
  ∃t₁ σ₁,J_ P G ih ops A n d fin ρ₀ σ₀ w₀ t₀ l (i::done) t₁ σ₁ listed Y w a:=by
 obtain⟨hh,ab⟩:=hj.ok;obtain⟨o,B⟩:∃o,ops[i]? =some o:=⟨ops[i]' hh.lt,aG_ hh.lt⟩
 have u:(match ops[i]? with
   | some o=>iy P G ih false ops n o t O (fun t' O'=>bif dy P G ops t' O' rc then ki P G ih ops n d l t' O' else .err 86)
   | none=>.err 87)=fin:=hj.run
 rw[B] at u;dsimp only at u;have hhead:=hj.yh E B hh.new
 have z:∀t₁ σ₁,(bif dy P G ops t₁ σ₁ rc then ki P G ih ops n d l t₁ σ₁ else .err 86)=fin->ki P G ih ops n d l t₁ σ₁=fin:=fun t₁ σ₁ h=>by
  grind
 have C:∀{v:V} {t₁:PT V},dE t n o.dst v=some t₁->∀k∈slotsOf ops o,∀j,sA A i j=true->fA ops j=some k->t.get (posOf k)=t₁.get (posOf k):=fun hp k hk j M K=>by
  refine((mD hp).1 k fun e=>?_).symm;have:=E.uniq i j k (by rw[iP B];exact e) K;subst this;exact hh.new<|xp E hh.lt hh.dep hj.lE i hh.lt M
 unfold iy at u;cases hw:bR ops t o with
 | none=>grind
 | some bw=>
  rw[hw] at u;cases bw with
  | false=>
   dsimp only at u;cases hp:dE t n o.dst unit with
   | none=>grind
   | some t₁=>
    rw[hp] at u;refine⟨t₁,O,hj.ahead E hl B hp (z _ _ u) hj.inv (fb.refl _ _ _) (fun _ _ h=>h) (fun b hb=>by cases hb) ?_⟩;exact⟨o,t,B,C hp,hhead,false,hw,fun _ k hk=>((mD hp).2 k hk).2,fun h=>by cases h⟩
  | true=>
   dsimp only at u
   have main:∀(v:V) (σ₁:aB),lf P G ih (eo P G (bI G t) O o.op)= .ret v σ₁->Inv Y σ₁ w->fb Y O w Y σ₁ w->(∀b o,O.m.get b=some o->σ₁.m.get b=some o)->
     (∀b,dz v=some b->kindOf P o.op= .alloc->O.next.num<=b.num)->(∀t₁,(∀k,o.dst=some k->t₁.get (posOf k)=some v)->mU P G t₁ σ₁ Y σ₀.next.num t o)->
     ∃t₁ σ₁,J_ P G ih ops A n d fin ρ₀ σ₀ w₀ t₀ l (i::done) t₁ σ₁ listed Y w a:=by
    intro v σ₁ he hinv ar I hblk L;rw[he] at u;dsimp only at u;cases hp:dE t n o.dst v with
    | none=>grind
    | some t₁=>
     rw[hp] at u;refine⟨t₁,σ₁,hj.ahead E hl B hp (z _ _ u) hinv ar I hblk ?_⟩;exact⟨o,t,B,C hp,hhead,true,hw,fun h=>(by cases h),fun _=>L t₁ fun k hk=>((mD hp).2 k hk).2⟩
   cases hk:kindOf P o.op with
   | kT=>simp[jO,Gp,B,hk] at hl
   | pure=>
    cases hv:eh P (bI G t) o.op with
    | none=>
     have:lf P G ih (eo P G (bI G t) O o.op)= .err (Nat.add 1000<|AT o.op):=by unfold eo;rw[hk];dsimp only;rw[hv];rfl
     grind
    | some v=>
     have:lf P G ih (eo P G (bI G t) O o.op)= .ret v O:=by unfold eo;rw[hk];dsimp only;rw[hv];rfl
     refine main v O this hj.inv (fb.refl _ _ _) (fun _ _ h=>h) (fun b _ h=>by rw[hk] at h;cases h) fun t₁ ht₁=>?_
     unfold mU;simp_all
   | read=>
    cases hv:gE P (bI G t) O o.op with
    | none=>
     have:lf P G ih (eo P G (bI G t) O o.op)= .err (Nat.add 2000<|AT o.op):=by unfold eo;rw[hk];dsimp only;rw[hv];rfl
     grind
    | some v=>
     have:lf P G ih (eo P G (bI G t) O o.op)= .ret v O:=by unfold eo;rw[hk];dsimp only;rw[hv];rfl
     refine main v O this hj.inv (fb.refl _ _ _) (fun _ _ h=>h) (fun b _ h=>by rw[hk] at h;cases h) fun t₁ ht₁=>?_
     unfold mU;simp_all
   | alloc=>
    cases hv:fP P (bI G t) o.op with
    | none=>
     have:lf P G ih (eo P G (bI G t) O o.op)= .err (Nat.add 3000<|AT o.op):=by unfold eo;rw[hk];dsimp only;rw[hv];rfl
     grind
    | some p=>
     obtain⟨ob,mk⟩:=p;have:lf P G ih (eo P G (bI G t) O o.op)= .ret (mk.of O.next) (O.alloc ob):=by unfold eo;rw[hk];dsimp only;rw[hv];rfl
     obtain⟨g1,N,Q⟩:=hj.inv.ahead ob;refine main _ _ this g1 N Q (fun b hb _=>by rw[BI] at hb;simp_all) fun t₁ ht₁=>?_
     unfold mU;rw[hk];exact⟨ob,mk,O.next,hv,aB.JB O ob,(hj.inv.fresh _<|nR_ _).1,hj.Q0.next,by simp[aB.alloc,Pos.iT],ht₁⟩
theorem J_.advance (z:Shape P ops A) (u:∀k,fin≠ .err k):∀(l:List (Nat×List Nat)) (done:List Nat) (t:PT V) (O:aB),J_ P G ih ops A n d fin ρ₀ σ₀ w₀ t₀ l done t O listed Y w a->
  ∃l' done' t' O',J_ P G ih ops A n d fin ρ₀ σ₀ w₀ t₀ l' done' t' O' listed Y w a/\(l'= []∨∃i rc r,l'=(i,rc)::r/\jO P ops i=true)
 | [],done,t,O,hj=>⟨[],done,t,O,hj,.inl Z⟩
 | (i,rc)::l,done,t,O,hj=>by
  cases hl:jO P ops i with
  | true=>exact⟨_,done,t,O,hj,.inr ⟨i,rc,l,Z,hl⟩⟩
  | false=>
   obtain⟨t₁,σ₁,hj₁⟩:=hj.Ti z hl u;exact J_.advance z u l _ t₁ σ₁ hj₁
end
variable {ob:cN}
section
variable {P:Program} {G:Cx} {ih:jY} {ops:Array Oper} {A:Array Nat} {n:Nat} {d:List DE} {fin:CR} {ρ₀:Ren} {σ₀:aB} {w₀:World} {t₀:PT V}
variable {l:List (Nat×List Nat)} {done:List Nat} {t:PT V} {O:aB} {listed:Array Bool} {Y:Ren} {w:World} {a:Act}
theorem J_.behind (K:Shape P ops A) (hj:J_ P G ih ops A n d fin ρ₀ σ₀ w₀ t₀ l done t O listed Y w a) {i:Nat} {o:Oper} {x:Value} (L:ops[i]? =some o) (C:i∈done) (hn:¬Li listed i)
  (hr:∀j,j<ops.size->sA A i j=true->Li listed j) (hv:∀k v,o.dst=some k->t.get (posOf k)=some v->VR ρ₁ v x) (hinv:Inv ρ₁ O w₁) (ar:fb ρ₀ σ₀ w₀ ρ₁ O w₁) (hle:Y.le ρ₁)
  (aa:∀j∈done,¬Li listed j->j≠i->rL P G ops A t₀ t O ρ₁ σ₀.next.num j):J_ P G ih ops A n d fin ρ₀ σ₀ w₀ t₀ l done t O (listed.setIfInBounds i true) ρ₁ w₁ (a.put o.dst x):=by
 have E:i<listed.size:=by rw[hj.Oi];exact hj.Ro i C
 have B:fA ops i=o.dst:=iP L;obtain⟨I,M,N⟩:=Na (a:=a) (dst:=o.dst) (x:=x);have z:∀{j},Li (listed.setIfInBounds i true) j↔j=i∨Li listed j:=FJ E
 refine⟨hj.run,hj.ok,hinv,ar,by rw[put_defers];exact hj.dr.mono hle,hj.gr.mono hle,by rw[N];exact hj.Q3,by simpa using hj.Oi,hj.Ro,hj.ord,fun j h=>?_,fun j h hh=>z.2 (.inr<|hj.kT j h hh),fun j q hq h Q=>?_,hj.lE,hj.SC,
  fun j k v h hk hu=>?_,fun k v h hu=>?_,hj.same,fun j h hl=>?_,?_⟩
 ·rcases z.1 h with rfl | h
  ·exact C
  exact hj.sub j h
 ·rcases z.1 h with rfl | h
  ·simp_all
  exact z.2 (.inr<|hj.closed j q hq h Q)
 ·by_cases e:j=i
  ·subst e;rw[B] at hk;rw[M k hk (by rw[hj.Q3];exact hj.SC j C k (by rw[B];exact hk))];exact hv k v hk hu
  have hL:=(z.1 h).resolve_left e;rw[I k (fun e'=>e (K.uniq j i k hk (by rw[B];exact e')))];exact VR.mono hle _ _<|hj.E7 j k v hL hk hu
 ·rw[I k (fun e'=>h i (z.2 (.inl Z)) (by rw[B];exact e'))];obtain⟨q1,q2⟩:=hj.E6 k v (fun j hL=>h j (z.2 (.inr hL))) hu;exact⟨q1,VR.mono hle _ _ q2⟩
 ·simp_all
 intro j q o' o'' k k' u u' b h1 R S T;exact hj.apart j q o' o'' k k' u u' b h1 R (fun hL=>S (z.2 (.inr hL))) (fun hL=>T (z.2 (.inr hL)))
theorem uu {t₁:PT V} {σ₁:aB}:∀{rc:List Nat} {j:Nat},dy P G ops t₁ σ₁ rc=true->j∈rc->kF P G ops t₁ σ₁ j=true
 | [],j,_,hj=>by cases hj
 | i::rc,j,h,hj=>by
  have h':(bif kF P G ops t₁ σ₁ i then dy P G ops t₁ σ₁ rc else false)=true:=h;rw[bM] at h';split at h'
  ·rename_i hi;rcases dD hj with rfl | hj
   ·exact hi
   exact uu h' hj
  cases h'
theorem J_.NQ (T:Shape P ops A) {i:Nat} (hj:J_ P G ih ops A n d fin ρ₀ σ₀ w₀ t₀ ((i,rc)::l) done t O listed Y w a) (hl:jO P ops i=true) {o:Oper} (ho:ops[i]? =some o)
  (hr:∀j,j<ops.size->sA A i j=true->Li listed j) {v:V} {x:Value} (hp:dE t n o.dst v=some t₁) (I:dy P G ops t₁ σ₁ rc=true) (L:ki P G ih ops n d l t₁ σ₁=fin)
  (hv:VR ρ₁ v x) (hinv:Inv ρ₁ σ₁ w₁) (ar:fb Y O w ρ₁ σ₁ w₁):J_ P G ih ops A n d fin ρ₀ σ₀ w₀ t₀ l (i::done) t₁ σ₁ (listed.setIfInBounds i true) ρ₁ w₁ (a.put o.dst x):=by
 obtain⟨hh,W⟩:=hj.ok;obtain⟨X,f2⟩:=mD hp;have hle:=ar.le hj.inv;have aa:i<listed.size:=by rw[hj.Oi];exact hh.lt
 have C:fA ops i=o.dst:=iP ho;obtain⟨p1,p2,p3⟩:=Na (a:=a) (dst:=o.dst) (x:=x);have z:∀{j},Li (listed.setIfInBounds i true) j↔j=i∨Li listed j:=FJ aa;have ao:¬Li listed i:=fun h=>hh.new (hj.sub i h)
 have B:∀j∈done,∀k,fA ops j=some k->t₁.get (posOf k)=t.get (posOf k):=fun j E k hk=>X k fun e=>by
  have:=T.uniq i j k (by rw[C];exact e) hk;subst this;exact hh.new E
 refine⟨L,W,hinv,hj.Q0.trans ar,by rw[put_defers];exact hj.dr.mono hle,hj.gr.mono hle,by rw[p3];exact hj.Q3,by simpa using hj.Oi,fun j h=>?_,⟨hh.dep,hj.ord⟩,fun j h=>?_,fun j h hv=>?_,fun j q hq h K=>?_,fun j q hq h K=>?_,fun j h k hk=>?_,
  fun j k u h hk hu=>?_,fun k u h hu=>?_,fun k hk=>?_,fun j h M=>?_,?_⟩
 ·rcases dD h with rfl | h
  ·exact hh.lt
  exact hj.Ro j h
 ·rcases z.1 h with rfl | h
  ·simp_all
  exact mC_ _<|hj.sub j h
 ·rcases dD h with rfl | h
  ·simp_all
  exact z.2 (.inr<|hj.kT j h hv)
 ·rcases z.1 h with rfl | h
  ·simp_all
  exact z.2 (.inr<|hj.closed j q hq h K)
 ·rcases dD h with rfl | h
  ·exact mC_ _<|xp T hh.lt hh.dep hj.lE q hq K
  exact mC_ _<|hj.lE j q hq h K
 ·rcases dD h with rfl | h
  ·simp_all
  exact hj.SC j h k hk
 ·by_cases e:j=i
  ·subst e;rw[C] at hk;obtain⟨q1,q2⟩:=f2 k hk;rw[p2 k hk (by rw[hj.Q3];exact q1)]
   simp_all
  have hL:=(z.1 h).resolve_left e;rw[p1 k (fun e'=>e (T.uniq j i k hk (by rw[C];exact e')))];rw[B j (hj.sub j hL) k hk] at hu;exact VR.mono hle _ _<|hj.E7 j k u hL hk hu
 ·rw[p1 k (fun e'=>h i (z.2 (.inl Z)) (by rw[C];exact e'))];obtain⟨q1,q2⟩:=hj.E6 k u (fun j hL=>h j (z.2 (.inr hL))) hu;exact⟨q1,VR.mono hle _ _ q2⟩
 ·rw[X k (fun e=>hk i (mS_ ..) (by rw[C];exact e))];exact hj.same k fun j h=>hk j (mC_ _ h)
 ·have ab:j≠i:=fun e=>M (z.2 (.inl e))
  have N:¬Li listed j:=fun hL=>M (z.2 (.inr hL))
  have E:j∈done:=(dD h).resolve_left ab;refine(hj.EH j E N).again T (fun k hk=>?_) (fun k hk=>?_) (fun ac=>?_) (fun b hb=>ar.ext b hb) ar.next
  ·rcases hk with hk | ⟨q,hq,hk⟩
   ·grind
   exact B q (hj.lE j q (mf hk) E hq) k hk
  ·rw[X k (fun e=>hk i (by rw[C];exact e))];exact hj.same k fun j _=>hk j
  rcases hh.again hl j E ac with K | hm
  ·exact absurd (hr j (hj.Ro j E) K) N
  exact uu I hm
 intro j q o' o'' k k' u u' b h1 h2 h3 h4 h5 h6 h7 h8 h9 Q R S ak am;have m1:j∈done:=(dD h1).resolve_left fun e=>h3 (z.2 (.inl e))
 have m2:q∈done:=(dD h2).resolve_left fun e=>h4 (z.2 (.inl e))
 rw[B j m1 k h9] at R;rw[B q m2 k' Q] at S;exact hj.apart j q o' o'' k k' u u' b m1 m2 (fun hL=>h3 (z.2 (.inr hL))) (fun hL=>h4 (z.2 (.inr hL))) h5 h6 h7 h8 h9 Q R S ak am
theorem EO {i:Nat} (z:listed.size=ops.size) (h:i∈Region.ready .any ops listed):i<ops.size/\¬Li listed i/\∀j,waits ops i j=true->Li listed j:=by
 obtain⟨h1,o,B,C⟩:=mem_ready.1 h;have hlt:=(aS_.1 B).1;refine⟨hlt,(My (by rw[z];exact hlt)).1 h1,fun j hw=>?_⟩;obtain⟨o',u,e,he,hb,rfl⟩:=rJ.1 hw;rw[B] at u;cases u;exact C e he hb
theorem EN {i:Nat} (u:listed.size=ops.size) (hlt:i<ops.size) (hn:¬Li listed i) (hw:∀j,waits ops i j=true->Li listed j):i∈Region.ready .any ops listed:=
 mem_ready.2 ⟨(My (by rw[u];exact hlt)).2 hn,ops[i]' hlt,aG_ hlt,fun e he hb=>hw _ (rJ.2 ⟨_,aG_ hlt,e,he,hb,Z⟩)⟩
theorem AW:∀{done:List Nat},Ord ops done->(∃i∈done,¬Li listed i)->∃i∈done,¬Li listed i/\∀j,waits ops i j=true->Li listed j
 | [],_,⟨i,hi,_⟩=>by cases hi
 | i::r,z,⟨q,hq,hn⟩=>by
  by_cases B:∃j∈r,¬Li listed j
  ·obtain⟨j,h1,h2,h3⟩:=AW z.2 B
   grind
  have u:∀j∈r,Li listed j:=fun j hj=>zo_ fun h=>B ⟨j,hj,h⟩
  rcases dD hq with rfl | hq
  ·exact⟨q,mS_ ..,hn,fun j hw=>u j (z.1 j hw)⟩
  simp_all
theorem J_.all (hs:Shape P ops A) (hj:J_ P G ih ops A n d fin ρ₀ σ₀ w₀ t₀ l done t O listed Y w a) (hr:Region.ready .any ops listed= []):∀i,i<ops.size->Li listed i:=by
 have u:∀i∈done,Li listed i:=fun i hi=>zo_ fun h=>by
  obtain⟨q,h1,z,B⟩:=AW hj.ord ⟨i,hi,h⟩;have:=EN hj.Oi (hj.Ro q h1) z B
  simp_all
 intro i hi;cases l with
 | nil=>
  have:=hj.ok;exact u i<|this i hi
 | cons p l=>
  obtain⟨q,rc⟩:=p;obtain⟨hh,_⟩:=hj.ok;have:=EN (listed:=listed) hj.Oi hh.lt (fun h=>hh.new (hj.sub q h)) (fun j hw=>u j (hh.dep j hw))
  simp_all
theorem J_.finish (hs:Shape P ops A) (hj:J_ P G ih ops A n d fin ρ₀ σ₀ w₀ t₀ l done t O listed Y w a) (u:∀i,i<ops.size->Li listed i):fin= .ok .normal t d O/\TR Y t n a.tmps:=by
 cases l with
 | nil=>
  refine⟨hj.run.symm,hj.Q3,fun k v hv=>?_⟩
  by_cases hw:∃i,fA ops i=some k
  ·obtain⟨i,hi⟩:=hw;have hL:=u i (mf hi);exact⟨hj.SC i (hj.sub i hL) k hi,hj.E7 i k v hL hi hv⟩
  rw[hj.same k fun i _ hi=>hw ⟨i,hi⟩] at hv;exact hj.E6 k v (fun i _ hi=>hw ⟨i,hi⟩) hv
 | cons p l=>
  obtain⟨q,rc⟩:=p;obtain⟨hh,_⟩:=hj.ok;exact absurd (hj.sub q<|u q hh.lt) hh.new
def left (N:Nat) (listed:Array Bool):Nat:=(List.range N).countP fun i=> !listed.getD i false
theorem Ax {α:Type} {p q:α->Bool}:∀{l:List α} {x:α},(∀y∈l,q y=true->p y=true)->x∈l->p x=true->q x=false->l.countP q<l.countP p
 | [],x,_,hx,_,_=>by cases hx
 | y::l,x,h,hx,hp,hq=>by
  have hle:l.countP q<=l.countP p:=List.countP_mono_left fun z hz=>h z (mC_ _ hz)
  rcases dD hx with rfl | hx
  ·grind
  have:=Ax (fun z hz=>h z (mC_ _ hz)) hx hp hq
  grind
theorem Mj {N i:Nat} (hi:i<N) (u:listed.size=N) (hn:¬Li listed i):left N (listed.setIfInBounds i true)<left N listed:=by
 refine Ax (x:=i) (fun y _ hy=>?_) (List.mem_range.2 hi) ?_ ?_
 ·by_cases h:Li listed y
  ·have:Li (listed.setIfInBounds i true) y:=(FJ (by rw[u];exact hi)).2 (.inr h);unfold Li at this
   simp_all
  unfold Li at h;simpa using h
 ·unfold Li at hn;simpa using hn
 simp_all
theorem JN {N:Nat} (h:left N listed=0):∀i,i<N->Li listed i:=fun i hi=>by
 have:=List.countP_eq_zero.1 h i (List.mem_range.2 hi);unfold Li;simpa using this
theorem Inv.lay (hi:Inv Y O w) {b:Pos} {l:Loc} {x:Obj} (hb:O.m.get b=some ob) (hn:Y b=none) (hlt:b.num<O.next.num) (hl:l.dz=w.heap.size) (L:gF Y l ob x):Inv (Y.with b l) O (w.alloc x)/\Y.le (Y.with b l):=by
 have hle:Y.le (Y.with b l):=fun b' l' u=>by
  grind [Ren.eC]
 have hold:∀b' l',b'≠b->(Y.with b l) b'=some l'->Y b'=some l':=fun b' l' hne h=>by rwa[Ren.eC Y l hne] at h
 have B:Old (Y.with b l) O (w.alloc x):=by
  refine⟨by have:=hi.oI.size;simp;omega,fun r E=>by rw[heap_alloc_old w x<|zh_ E hi.oI.size];exact hi.oI.same r E,fun r E ⟨b',o',l',h1,K,z,I⟩=>?_⟩
  by_cases e:b'=b
  ·subst e;rw[Ren.cZ] at z;cases z;have:=hi.oI.size;omega
  exact hi.oI.no r E ⟨b',o',l',h1,K,hold b' l' e z,I⟩
 refine⟨⟨⟨fun b' u=>?_,fun b' l' u=>?_,fun b' o' l' u C=>?_,fun b₁ b₂ o₁ o₂ l₁ l₂ h1 K z I h5 M=>?_⟩,B⟩,hle⟩
 ·have hne:b'≠b:=fun e=>by subst e;omega
  rw[Ren.eC Y l hne];exact hi.fresh b' u
 ·simp only[World.size_alloc]
  by_cases e:b'=b
  ·subst e;rw[Ren.cZ] at u;cases u;omega
  have:=hi.dz b' l' (hold b' l' e u);omega
 ·by_cases e:b'=b
  ·subst e;rw[Ren.cZ] at C;cases C;rw[hb] at u;cases u;exact⟨x,by rw[hl];exact heap_alloc_new w x,L.mono hle⟩
  have h':=hold b' l' e C;obtain⟨y,hy,E⟩:=hi.obj b' o' l' u h';exact⟨y,by rw[heap_alloc_old w x<|hi.dz b' l' h'];exact hy,E.mono hle⟩
 by_cases e1:b₁=b<;>by_cases e2:b₂=b
 ·simp_all
 ·subst e1;rw[Ren.cZ] at z;cases z;have:=hi.dz b₂ l₂ (hold b₂ l₂ e2 I);omega
 ·subst e2;rw[Ren.cZ] at I;cases I;have:=hi.dz b₁ l₁ (hold b₁ l₁ e1 z);omega
 exact hi.inj b₁ b₂ o₁ o₂ l₁ l₂ h1 K (hold b₁ l₁ e1 z) (hold b₂ l₂ e2 I) h5 M
theorem fb.lay (ar:fb ρ₀ σ₀ w₀ Y O w) {b:Pos} {l:Loc} {x:Obj} (aa:σ₀.next.num<=b.num) (hl:l.dz=w.heap.size):fb ρ₀ σ₀ w₀ (Y.with b l) O (w.alloc x):=by
 refine⟨fun b' z=>?_,ar.next,by have:=ar.size;simp;omega,fun r B hn=>?_,?_,ar.tape,ar.os,ar.out⟩
 ·rw[Ren.eC Y l (fun e=>by subst e;omega)];exact ar.ext b' z
 ·rw[heap_alloc_old w x (by have:=ar.size;omega)];exact ar.frame r B hn
 rintro r ⟨b',o',l',h1,C,u,rfl⟩ B
 by_cases e:b'=b
 ·subst e;rw[Ren.cZ] at u;cases u;have:=ar.size;omega
 rw[Ren.eC Y l e] at u;exact ar.wr _ ⟨b',o',l',h1,C,u,Z⟩ B
theorem J_.take (I:Shape P ops A) (hj:J_ P G ih ops A n d fin ρ₀ σ₀ w₀ t₀ l done t O listed Y w a) {i:Nat} (C:i∈done) (hn:¬Li listed i) (hw:∀j,waits ops i j=true->Li listed j) (rl:Option Nat) (m:Nat) {K:Act->World->Prop}
  (R:∀ρ₁ w₁ a₁,J_ P G ih ops A n d fin ρ₀ σ₀ w₀ t₀ l done t O (listed.setIfInBounds i true) ρ₁ w₁ a₁->K a₁ w₁):wpOpIn (lH rl) m P ops Q i K a w:=by
 have hr:=xq I (hj.Ro i C) hw hj.closed;obtain⟨o,ti,E,h1,h2,bw,h3,h4,h5⟩:=hj.EH i C hn;have hlook:=hj.look I E hn hr h1 h2;unfold wpOpIn;rw[E];dsimp only;rw[v8 hj.Q3 hlook h3];cases bw with
 | false=>
  simp only[zi_,if_false];exact⟨fun f _=>ng rl f,R Y w _<|hj.behind I E C hn hr (fun k v hk hv=>by rw[h4 Z k hk] at hv;cases hv;exact wH) hj.inv hj.Q0 (fun _ _ h=>h) fun j z B _=>hj.EH j z B⟩
 | true=>
  simp only[if_true];have S:ER Y (bI G ti) a.eval o.op:=H3 hj.gr hlook;have hv:=h5 Z;unfold mU at hv;have L:kindOf P o.op≠ .kT->∀c,o.op≠ .defer c:=fun hk c e=>hk (by rw[e];rfl)
  unfold Oper.wpIn;refine⟨fun f _=>ng rl f,?_⟩;cases hk:kindOf P o.op with
  | kT=>simp_all
  | pure=>
   rw[hk] at hv;obtain⟨v,g1,T⟩:=hv;obtain⟨x,hx,M⟩:=y9 (P:=P) (w:=w) S g1;rw[Oper.semAt_eq _ _ _<|L (by rw[hk];simp),hx,Oper.uponIn_value];exact R Y w _<|hj.behind I E C hn hr (fun k u hk hu=>by simp_all) hj.inv hj.Q0 (fun _ _ h=>h) fun j z B _=>hj.EH j z B
  | read=>
   rw[hk] at hv;obtain⟨v,g1,T⟩:=hv;obtain⟨x,hx,M⟩:=zf (P:=P) hj.inv S g1;rw[Oper.semAt_eq _ _ _<|L (by rw[hk];simp),hx,Oper.uponIn_value];exact R Y w _<|hj.behind I E C hn hr (fun k u hk hu=>by simp_all) hj.inv hj.Q0 (fun _ _ h=>h) fun j z B _=>hj.EH j z B
  | alloc=>
   rw[hk] at hv;obtain⟨ob,mk,b,g1,T,g3,g4,g5,g6⟩:=hv;obtain⟨x,ob',c,hx,ab,W,M⟩:=vD (P:=P) (w:=w) S g1;rw[Oper.semAt_eq _ _ _<|L (by rw[hk];simp),hx,Oper.uponIn_value];obtain⟨inv,hle⟩:=hj.inv.lay (l:=⟨w.heap.size,0,c⟩) T g3 g5 Z W;obtain⟨kd,N⟩:=I.dst i o E (by simp[gi,uV,E,hk]);refine R _ _ _<|hj.behind I E C hn hr (fun k u hk hu=>by grind [Ren.cZ]) inv (hj.Q0.lay g4 Z) hle fun j z B X=>?_;refine(hj.EH j z B).WY I fun b' aa hb'n=>?_
   obtain⟨o',k',v',q1,q2,q3,q4,q5⟩:=aa;rw[Ren.eC]
   ·exact hb'n
   intro e;subst e;exact X<|hj.apart j i o' o k' kd v' (mk.of b') b' z C B hn q1 E q2 hk q3 (by rw[iP E];exact N) q4 (g6 kd N) q5<|BI mk b'
theorem Ll (C:Shape P ops A) (X:Sound P G ih) (rl:Option Nat) (m:Nat) {e:Ex} {t':PT V} {d':List DE} {O':aB} (z:fin= .ok e t' d' O')
  (hQ:∀(Y':Ren) (w':World) (a':Act),Inv Y' O' w'->fb ρ₀ σ₀ w₀ Y' O' w'->TR Y' t' n a'.tmps->DR Y' d' a'.defers->Qx Q Y' e a' w'):
  ∀(fuel:Nat) (l:List (Nat×List Nat)) (done:List Nat) (t:PT V) (O:aB) (listed:Array Bool) (Y:Ren) (w:World) (a:Act),J_ P G ih ops A n d fin ρ₀ σ₀ w₀ t₀ l done t O listed Y w a->left ops.size listed<=fuel->
   wpAnyIn (lH rl) m P .any ops Q fuel listed a w:=by
 have E:∀{l done t O listed Y w a},J_ P G ih ops A n d fin ρ₀ σ₀ w₀ t₀ l done t O listed Y w a->Region.ready .any ops listed= []->Q .normal a w:=fun {l done t O listed Y w a} hj hr=>by
  obtain⟨h1,N⟩:=hj.finish C (hj.all C hr);rw[z] at h1;cases h1;exact hQ Y w a hj.inv hj.Q0 N hj.dr _ Z
 intro fuel;induction fuel with
 | zero=>
  intro l done t O listed Y w a hj hf;have hall:=JN (Nat.le_zero.1 hf)
  have hr:Region.ready .any ops listed= []:=by
   apply List.eq_nil_iff_forall_not_mem.2;intro i hi;obtain⟨h1,N,_⟩:=EO hj.Oi hi;exact N<|hall i h1
  exact⟨hr,E hj hr⟩
 | succ fuel ihf=>
  intro l done t O listed Y w a hj hf;refine⟨fun hr=>E hj hr,fun i hi=>?_⟩;obtain⟨l,done,t,O,hj,I⟩:=J_.advance C (fun k=>by rw[z];simp) l done t O hj;obtain⟨hlt,hn,hw⟩:=EO hj.Oi hi;have K:left ops.size (listed.setIfInBounds i true)<=fuel:=by have:=Mj hlt hj.Oi hn;omega
  by_cases L:i∈done
  ·exact hj.take C L hn hw rl m fun ρ₁ w₁ a₁ hj₁=>ihf _ _ _ _ _ _ _ _ hj₁ K
  
  rcases I with rfl | ⟨q,rc,r,rfl,hl⟩
  ·have:=hj.ok;exact absurd (this i hlt) L
  obtain⟨hh,_⟩:=hj.ok
  have S:i=q:=zo_ fun hne=>by
   obtain⟨x,h1,N⟩:=hh.alone hl i hlt L hne;exact N<|hj.sub x<|hw x h1
  subst S;have hr:=xq C hlt hw hj.closed;obtain⟨o,M⟩:∃o,ops[i]? =some o:=⟨ops[i]' hlt,aG_ hlt⟩;have hlook:=hj.look C M hn hr (ti:=t) (fun _ _ _ _ _=>Z) (hj.yh C M hh.new)
  have u:(match ops[i]? with
   | some o=>iy P G ih false ops n o t O (fun t' O'=>bif dy P G ops t' O' rc then ki P G ih ops n d r t' O' else .err 86)
   | none=>.err 87)=fin:=hj.run
  rw[M,z] at u;dsimp only at u
  have B:∀t₁ σ₁,(bif dy P G ops t₁ σ₁ rc then ki P G ih ops n d r t₁ σ₁ else .err 86)= .ok e t' d' O'->dy P G ops t₁ σ₁ rc=true/\ki P G ih ops n d r t₁ σ₁=fin:=fun t₁ σ₁ h=>by
   grind
  unfold iy at u;unfold wpOpIn;rw[M];dsimp only;cases R:bR ops t o with
  | none=>simp_all
  | some bw=>
   rw[R] at u;rw[v8 hj.Q3 hlook R];cases bw with
   | false=>
    dsimp only at u;simp only[zi_,if_false];cases hp:dE t n o.dst unit with
    | none=>simp_all
    | some t₁=>
     rw[hp] at u;obtain⟨T,W⟩:=B _ _ u;exact⟨fun f _=>ng rl f,ihf _ _ _ _ _ _ _ _ (hj.NQ C hl M hr hp T W wH hj.inv<|fb.refl _ _ _) K⟩
   | true=>
    dsimp only at u;simp only[if_true];cases he:lf P G ih (eo P G (bI G t) O o.op) with
    | err k=>simp_all
    | kE v σ₁=>rw[he] at u;cases u
    | ret v σ₁=>
     rw[he] at u;dsimp only at u;cases hp:dE t n o.dst v with
     | none=>simp_all
     | some t₁=>
      rw[hp] at u;obtain⟨T,W⟩:=B _ _ u;exact Ew X hj.inv hj.gr (H3 hj.gr hlook) he rl m fun ρ₁ w₁ x inv st hv=>ihf _ _ _ _ _ _ _ _ (hj.NQ C hl M hr hp T W hv inv st) K
end
variable {d₁:List DE} {fuel:Nat} {rl:Option Nat} {Y:Ren}
section
variable {P:Program} {G:Cx}
theorem jB {b:Frame} {a:Act} {k:List Item} {cs:List Frame} {w:World} {c:Code}:step P (lone (b.atR a (.code (.scope c)::k)) cs w)= .next (lone (b.atR a (.code c:: .inScope c::k)) cs w):=
 step_lone_go (by simp[stepG,stepG.exec,Frame.atR])
theorem zY {b:Frame} {a:Act} {k:List Item} {cs:List Frame} {w:World} {c:Code}:step P (lone (b.atR a (.inScope c::k)) cs w)= .next (lone (b.atR a k) cs w):=
 step_lone_go (by simp[stepG,stepG.exec,Frame.atR])
theorem Hp {F_:Fence} {n:Nat} {c:Code} {a:Act} {w:World} (h:c.wpIn F_ n P (Exit.noGoto Q) a w):(Code.scope c).wpIn F_ n P Q a w:=by
 intro b k cs u hb z;have h0:(lone (b.atR a (.code (.scope c)::k)) cs w).fenced P F_:=fenced_calm hb z Z;obtain⟨e,a₁,w₁,hq,d⟩:=h b (.inScope c::k) cs u hb z;cases e with
 | normal=>exact⟨.normal,a₁,w₁,hq,.head h0 jB<|StepsIn.trans d (.one (fenced_calm hb z Z) zY)⟩
 | exit id'=>
  have hx:exitTo id' (.inScope c::k)=exitTo id' k:=by simp[exitTo]
  exact⟨.exit id',a₁,w₁,hq,fun k' hk=>.head h0 jB (d.1 k' (by rw[hx];exact hk)),
   fun A hk=>let ⟨k₁,h1,B⟩:=d.2 A (by rw[hx];exact hk);⟨k₁,h1,.head h0 jB B⟩⟩
 | goto l=>exact hq.elim
 | ret=>exact⟨_,a₁,w₁,hq,.of_steps (.one h0 jB) d⟩
 | panic ch=>exact⟨_,a₁,w₁,hq,.of_steps (.one h0 jB) d⟩
 | outgrown=>exact⟨_,a₁,w₁,hq,.of_steps (.one h0 jB) d⟩
theorem kB {N i:Nat}:¬Li (Array.replicate N false) i:=by
 unfold Li;rw[Array.getD_eq_getD_getElem?,Array.getElem?_replicate];split<;>simp
theorem F8 (C:Sound P G ih) {n:Nat} {d:List DE} {t:PT V} {e:Ex} {t':PT V} {d':List DE} {O':aB} (h:vM P G ih ops n d t O= .ok e t' d' O')
  {w:World} {a:Act} (hi:Inv Y O w) (E:GR Y G) (B:TR Y t n a.tmps) (hd:DR Y d a.defers) (rl:Option Nat) (m:Nat) 
  (I:∀(Y':Ren) (w':World) (a':Act),Inv Y' O' w'->fb Y O w Y' O' w'->TR Y' t' n a'.tmps->DR Y' d' a'.defers->Qx Q Y' e a' w'):
  wpAnyIn (lH rl) m P .any ops Q ops.size (Array.replicate ops.size false) a {w with drawn:=w.drawn+1}:=by
 unfold vM at h;rw[bM] at h;split at h
 ·rename_i K;obtain⟨L,z⟩:=OZ K;refine Ll (A:=BE P ops) (n:=n) (d:=d) (t₀:=t) (ρ₀:=Y) (σ₀:=O) (w₀:=w) L C rl m Z I ops.size (lj P ops) [] t O _ Y _ a ?_ ?_
  ·refine⟨h,z,hi.drew,fb.drew Y O w,hd,E,B.1,by simp,fun i hi=>(by cases hi),trivial,fun i u=>absurd u kB,fun i hi=>(by cases hi),fun i j _ u=>absurd u kB,fun i j _ hi=>(by cases hi),fun i hi=>(by cases hi),
    fun i k v u=>absurd u kB,fun k v _ hv=>B.2 k v hv,fun _ _=>Z,fun i hi=>(by cases hi),?_⟩
   simp_all
  exact Nat.le_trans List.countP_le_length (by simp)
 cases h
theorem DZ {ro:Option Pos} {d:List DE} {O σ₁:aB} {df:Pos} {w:World} {a:Act} {t:PT V} {n:Nat} (h:yI ro d O=some (df,σ₁,d₁)) (hi:Inv Y O w) (E:TR Y t n a.tmps) (hd:DR Y d a.defers) (z:RO Y ro rl)
  (fn:FuncId) (ps:Array Tmp) (assign body:Code):
  ∃l mark w₁ ρ₁,(Instr.enterLoop fn a.tmps ps assign body rl).run P w= .ok (l,mark) w₁/\Inv ρ₁ (σ₁.alloc (.loop .ready none t n ps.toList assign body df)) w₁/\fb Y O w ρ₁ (σ₁.alloc (.loop .ready none t n ps.toList assign body df)) w₁/\
   ρ₁ σ₁.next=some ⟨l,0,0⟩/\DR ρ₁ d₁ (mark++a.defers):=by
 unfold yI at h;cases ro with
 | none=>
  cases rl with
  | some _=>exact z.elim
  | none=>
  cases h;obtain⟨A,I⟩:=hi.alloc (o:=.mark) (x:=.deferred<|some []) (l:=⟨w.heap.size,0,0⟩) Z Z;have hle1:=I.le hi
  obtain⟨B,u⟩:=A.alloc (o:=.loop .ready none t n ps.toList assign body O.next) (x:=.loop {state:=.ready,pending:=none,fn:=fn,tmps:=a.tmps,params:=ps,assign:=assign,body:=body,defers:=w.heap.size}) (l:=⟨w.heap.size+1,0,0⟩) (by simp)
   ⟨fn,a.tmps,⟨w.heap.size,0,0⟩,by simp,Ren.cZ _ _ _,E.mono hle1⟩
  refine⟨_,_,_,_,run_enterLoop_outer fn a.tmps ps assign body,B,I.trans u,Ren.cZ _ _ _,?_⟩;exact⟨⟨w.heap.size,0,0⟩,a.defers,u.le A _ _<|Ren.cZ _ _ _,Z,hd.mono (fun b l hb=>u.le A _ _ (hle1 b l hb))⟩
 | some b=>
  cases rl with
  | none=>exact z.elim
  | some l₀=>
  obtain⟨loc,hl,rfl⟩:=z;dsimp only at h;cases hb:O.m.get b with
  | none=>rw[hb] at h;cases h
  | some ob=>
  rw[hb] at h;cases ob with
  | loop st p tmps n' ps' asg' bd df'=>
   cases h;obtain⟨x,hh,fn',tmps',l',rfl,C,aa⟩:=hi.obj b _ loc hb hl
   obtain⟨B,u⟩:=hi.alloc (o:=.loop .ready none t n ps.toList assign body df) (x:=.loop {state:=.ready,pending:=none,fn:=fn,tmps:=a.tmps,params:=ps,assign:=assign,body:=body,defers:=l'.dz}) (l:=⟨w.heap.size,0,0⟩) Z
    ⟨fn,a.tmps,l',by simp,C,E⟩
   exact⟨_,_,_,_,run_enterLoop_inner hh fn a.tmps ps assign body,B,u,Ren.cZ _ _ _,hd.mono<|u.le hi⟩
  | _=>cases h
theorem zw {K:Act->World->Prop} {e:Ex} {a:Act} {w:World} (he:e≠ .normal) (h:Qx Q Y e a w):Qx (Exit.then K Q) Y e a w:=by
 intro E d;have h':=h E d;cases e with
 | normal=>exact absurd Z he
 | kE v=>obtain⟨x,rfl,_⟩:=d;exact h'
 | exit i=>have d:E= .exit i:=d;subst d;exact h'
 | goto i=>have d:E= .goto i:=d;subst d;exact h'
 | ret=>have d:E= .ret:=d;subst d;exact h'
theorem EL (W:Sound P G ih) {g:Operand} {ps:Array Tmp} {assign body:Code} {t:PT V} {n:Nat} {d:List DE} {ro:Option Pos} {e:Ex} {t':PT V} {d':List DE} {O':aB}
  (h:vk P G ih g ps assign body t n d ro O= .ok e t' d' O') {w:World} {a:Act} {m:Nat} (hi:Inv Y O w) (I:GR Y G) (B:TR Y t n a.tmps) (hd:DR Y d a.defers) (X:RO Y ro rl)
  (hQ:∀(Y':Ren) (w':World) (a':Act),Inv Y' O' w'->fb Y O w Y' O' w'->TR Y' t' n a'.tmps->DR Y' d' a'.defers->Qx Q Y' e a' w'):(Code.rangeFunc g ps assign body).wpIn (lH rl) m P Q a w:=by
 unfold vk at h;cases hm:yI ro d O with
 | none=>rw[hm] at h;cases h
 | some q=>
 obtain⟨df,σ₁,d₁⟩:=q;rw[hm] at h;dsimp only at h;cases hv:bI G t g with
 | none=>rw[hv] at h;cases h
 | some fv=>
 rw[hv] at h;cases fv with
 | func f fi ca=>
  dsimp only at h;rw[bM] at h;split at h
  ·rename_i K;refine wpIn_rangeFunc fun fn _=>?_
   obtain⟨l,mark,w₁,ρ₁,g1,C,g3,g4,g5⟩:=DZ (P:=P) hm hi B hd X fn ps assign body;have hle:=g3.le hi;have hfv:=jg (a:=a) I B hv;simp only[VR] at hfv;obtain⟨fi',ca',L,M,N⟩:=hfv
   have z:(resolve a.eval (rangeCall g l) 0).run P w₁= .ok {target:=.fn (.func f) ca',args:=fi'++ #[.func (.yield l) #[] #[]]} w₁:=by
    have R:(#[Operand.const (.func (.yield l) #[] #[])]).map a.eval= #[.func (.yield l) #[] #[]]:=by simp[Act.eval]
    simp only[resolve,rangeCall,R,L,Deferred.ofValue,sP_]
   have hinv:(invoke (.fn (.func f) ca') (fi'++ #[.func (.yield l) #[] #[]])).run P w₁= .ok (.enter f (fi'++ #[.func (.yield l) #[] #[]]++ca')) w₁:=by
    simp only[invoke];exact yz K
   refine⟨l,mark,w₁,_,w₁,f,_,w₁,by rw[Gi];exact g1,z,fun f' _=>ng rl f',hinv,qY rl m,?_⟩;cases E:kP P G ih f (gS fi (.yield σ₁.next::ca)) (σ₁.alloc (.loop .ready none t n ps.toList assign body df)) with
   | err k=>rw[E] at h;cases h
   | kE v σ₃=>rw[E] at h;cases h
   | ret v σ₃=>
   rw[E] at h;dsimp only at h;refine sK W E C (I.mono hle) ?_ rl _ fun Y3 w₃ x i₃ s₃ hx=>?_
   ·rw[ep];have:(fi'++ #[Value.func (.yield l) #[] #[]]++ca').toList=fi'.toList++(.func (.yield l) #[] #[]::ca'.toList):=by simp
    rw[this];refine dA.append (dA.mono hle _ _ M)<|dA.cons ?_<|dA.mono hle _ _ N;simp only[VR];exact⟨_,g4,Z⟩
   have hl₃:=s₃.le C _ _ g4;have hle₃:Y.le Y3:=fun b l hb=>s₃.le C _ _ (hle b l hb)
   unfold FL at h;cases hb:σ₃.m.get σ₁.next with
   | none=>rw[hb] at h;cases h
   | some ob=>
   rw[hb] at h;cases ob with
   | loop st p tmps n' ps' asg bd df'=>
    dsimp only at h;obtain⟨y,hh,fn',tmps',l',rfl,S,T⟩:=i₃.obj _ _ _ hb hl₃;have A:st≠ .busy:=fun ar=>by subst ar;cases h
    have h':(match p with
      | none=>CR.ok .normal t d₁ (σ₃.setObj σ₁.next (.loop .exhausted none tmps n' ps' asg bd df'))
      | some c=>ih c t n d₁ ro (σ₃.setObj σ₁.next (.loop .exhausted (some c) tmps n' ps' asg bd df')))= .ok e t' d' O':=by
     cases st<;>first | exact absurd rfl A | exact h
    obtain⟨i₄,s₄⟩:=i₃.putObj (o':=.loop .exhausted p tmps n' ps' asg bd df') hb hl₃ Z Z
     (x:=.loop {state:=.exhausted,pending:=p,fn:=fn',tmps:=tmps',params:=ps'.toArray,assign:=asg,body:=bd,defers:=l'.dz}) ⟨fn',tmps',l',Z,S,T⟩
    refine⟨p,_,run_endLoop hh A,?_⟩;have ar:=(g3.trans s₃).trans s₄;have u:ρ₁.le Y3:=s₃.le C;cases p with
    | none=>
     cases h';exact hQ Y3 _ {a with defers:=mark++a.defers} i₄ ar (B.mono hle₃) (g5.mono u) _ Z
    | some c=>
     exact W.run c t n d₁ ro _ e t' d' O' h' Y3 _ {a with defers:=mark++a.defers} rl m Q i₄ (I.mono hle₃) (B.mono hle₃) (g5.mono u) (X.mono hle₃) fun Y' w' a' i' s' t'' d''=>hQ Y' w' a' i' (ar.trans s') t'' d''
   | _=>cases h
  cases h
 | _=>cases h
theorem J8 (hm:P.follows .mixedOrders=true) (N:zJ P G) (k:Nat):Sound P G (eI P G k):=by
 induction k using Nat.strongRecOn with
 | _ k ihk=>
  cases k with
  | zero=>exact⟨N,fun c t n d ro O e t' d' O' h=>by cases h⟩
  | succ j=>
   have hS:=ihk j (Nat.lt_succ_self j);refine⟨N,fun c t n d ro O e t' d' O' h Y w a rl m Q hi I C hd K B=>?_⟩;have h:ID P G (eI P G j) c t n d ro O= .ok e t' d' O':=h;cases c with
   | skip=>cases h;exact wpIn_skip<|B Y w a hi (fb.refl _ _ _) C hd _ Z
   | label l=>cases h;exact wpIn_label<|B Y w a hi (fb.refl _ _ _) C hd _ Z
   | exit id=>cases h;exact wpIn_exit<|B Y w a hi (fb.refl _ _ _) C hd _ Z
   | ret=>cases h;exact wpIn_ret<|B Y w a hi (fb.refl _ _ _) C hd _ Z
   | region id ops draw=>
    cases draw with
    | false=>
     have h':(bif mu ops.toList then .err 96 else D8 d (oY P G (eI P G j) ops n d ops.toList t O))= .ok e t' d' O':=h;refine wpIn_region ?_;rw[bM] at h';split at h'
     ·cases h'
     have:=uZ hS rl (m:=m) (Q:=Q) ops.toList 0 Z t O Y w a h' hi I C hd B;rw[List.range_eq_range'];simpa using this
    | true=>
     have h':vM P G (eI P G j) ops n d t O= .ok e t' d' O':=h
     grind [wpIn_region_any,F8]
   | seq x y=>
    have h':wC (eI P G j x t n d ro O) (fun t d O=>eI P G j y t n d ro O)= .ok e t' d' O':=h;refine wpIn_seq ?_;cases hx:eI P G j x t n d ro O with
    | err q=>rw[hx] at h';cases h'
    | ok e₁ t₁ d₁ σ₁=>
     rw[hx] at h'
     by_cases he:e₁= .normal
     ·subst he;refine hS.run x t n d ro O _ t₁ d₁ σ₁ hx Y w a rl m _ hi I C hd K fun ρ₁ w₁ a₁ i₁ s₁ ht₁ u E A=>?_
      have A:E= .normal:=A;subst A;have hle:=s₁.le hi;exact hS.run y t₁ n d₁ ro σ₁ e t' d' O' h' ρ₁ w₁ a₁ rl m Q i₁ (I.mono hle) ht₁ u (K.mono hle) fun Y' w' a' i' s'=>B Y' w' a' i' (s₁.trans s')
     have h'':CR.ok e₁ t₁ d₁ σ₁= .ok e t' d' O':=by cases e₁<;>first | exact absurd rfl he | exact h'
     cases h'';exact hS.run x t n d ro O _ _ _ _ hx Y w a rl m _ hi I C hd K fun ρ₁ w₁ a₁ i₁ s₁ ht₁ u=>zw he (B ρ₁ w₁ a₁ i₁ s₁ ht₁ u)
   | cond x y z=>
    have h':Aw (bI G t x) (eI P G j y t n d ro O) (eI P G j z t n d ro O)= .ok e t' d' O':=h;unfold Aw at h';split at h'
    ·rename_i hv;have:=jg (a:=a) I C hv;simp only[VR] at this;exact wpIn_cond_true this<|hS.run y t n d ro O e t' d' O' h' Y w a rl m Q hi I C hd K B
    ·rename_i hv;have:=jg (a:=a) I C hv;simp only[VR] at this;exact wpIn_cond_false this<|hS.run z t n d ro O e t' d' O' h' Y w a rl m Q hi I C hd K B
    cases h'
   | block id x=>
    have h':sB id (eI P G j x t n d ro O)= .ok e t' d' O':=h;refine wpIn_block ?_;cases hx:eI P G j x t n d ro O with
    | err q=>rw[hx] at h';cases h'
    | ok e₁ t₁ d₁ σ₁=>
     rw[hx] at h';refine hS.run x t n d ro O e₁ t₁ d₁ σ₁ hx Y w a rl m _ hi I C hd K fun ρ₁ w₁ a₁ i₁ s₁ ht₁ u E A=>?_
     cases e₁ with
     | exit q=>
      have A:E= .exit q:=A;subst A;unfold sB at h';dsimp only at h';rw[bM] at h';split at h'
      ·rename_i hq;cases h';have:=nB hq;subst this;simp only[Exit.inBlock,if_true];exact B ρ₁ w₁ a₁ i₁ s₁ ht₁ u _ Z
      rename_i hq;cases h';have hne:¬q=id:=fun e=>hq (by simp_all)
      simp only[Exit.inBlock,if_neg hne];exact B ρ₁ w₁ a₁ i₁ s₁ ht₁ u _ Z
     | normal=>have A:E= .normal:=A;subst A;cases h';exact B ρ₁ w₁ a₁ i₁ s₁ ht₁ u _ Z
     | goto q=>have A:E= .goto q:=A;subst A;cases h';exact B ρ₁ w₁ a₁ i₁ s₁ ht₁ u _ Z
     | ret=>have A:E= .ret:=A;subst A;cases h';exact B ρ₁ w₁ a₁ i₁ s₁ ht₁ u _ Z
     | kE v=>cases h';have h2:=B ρ₁ w₁ a₁ i₁ s₁ ht₁ u E A;obtain⟨y,rfl,_⟩:=A;exact h2
   | scope x=>
    have h':vn (eI P G j x t n d ro O)= .ok e t' d' O':=h;refine Hp ?_;cases hx:eI P G j x t n d ro O with
    | err q=>rw[hx] at h';cases h'
    | ok e₁ t₁ d₁ σ₁=>
     rw[hx] at h';refine hS.run x t n d ro O e₁ t₁ d₁ σ₁ hx Y w a rl m _ hi I C hd K fun ρ₁ w₁ a₁ i₁ s₁ ht₁ u E A=>?_
     cases e₁ with
     | goto q=>cases h'
     | normal=>have A:E= .normal:=A;subst A;cases h';exact B ρ₁ w₁ a₁ i₁ s₁ ht₁ u _ Z
     | exit q=>have A:E= .exit q:=A;subst A;cases h';exact B ρ₁ w₁ a₁ i₁ s₁ ht₁ u _ Z
     | ret=>have A:E= .ret:=A;subst A;cases h';exact B ρ₁ w₁ a₁ i₁ s₁ ht₁ u _ Z
     | kE v=>cases h';have h2:=B ρ₁ w₁ a₁ i₁ s₁ ht₁ u E A;obtain⟨y,rfl,_⟩:=A;exact h2
   | loop x=>
    refine wpIn_loop_ghost (fun i a₁ w₁=>i<=j+1/\∃t₁ d₁ σ₁ ρ₁,eI P G i (.loop x) t₁ n d₁ ro σ₁= .ok e t' d' O'/\Inv ρ₁ σ₁ w₁/\fb Y O w ρ₁ σ₁ w₁/\TR ρ₁ t₁ n a₁.tmps/\DR ρ₁ d₁ a₁.defers) (j+1)
     ⟨nR_ _,t,d,O,Y,h,hi,fb.refl _ _ _,C,hd⟩ fun i a₁ w₁ R=>?_
    obtain⟨aa,t₁,d₁,σ₁,ρ₁,L,i₁,s₁,ht₁,u⟩:=R;have hle:=s₁.le hi;cases i with
    | zero=>cases L
    | succ i=>
     have hSi:=ihk i oM;have h':wC (eI P G i x t₁ n d₁ ro σ₁) (fun t d O=>eI P G i (.loop x) t n d ro O)= .ok e t' d' O':=L;cases hx:eI P G i x t₁ n d₁ ro σ₁ with
     | err q=>rw[hx] at h';cases h'
     | ok e₂ t₂ d₂ σ₂=>
      rw[hx] at h'
      by_cases he:e₂= .normal
      ·subst he;refine hSi.run x t₁ n d₁ ro σ₁ _ t₂ d₂ σ₂ hx ρ₁ w₁ a₁ rl m _ i₁ (I.mono hle) ht₁ u (K.mono hle) fun ρ₂ w₂ a₂ i₂ s₂ ht₂ M E A=>?_
       have A:E= .normal:=A;subst A;exact⟨i,Nat.lt_succ_self i,by omega,t₂,d₂,σ₂,ρ₂,h',i₂,s₁.trans s₂,ht₂,M⟩
      have h'':CR.ok e₂ t₂ d₂ σ₂= .ok e t' d' O':=by cases e₂<;>first | exact absurd rfl he | exact h'
      cases h'';exact hSi.run x t₁ n d₁ ro σ₁ _ _ _ _ hx ρ₁ w₁ a₁ rl m _ i₁ (I.mono hle) ht₁ u (K.mono hle) fun ρ₂ w₂ a₂ i₂ s₂ ht₂ M=>zw he (B ρ₂ w₂ a₂ i₂ (s₁.trans s₂) ht₂ M)
   | rangeFunc g ps assign body=>exact EL hS h hi I C hd K B
   | _=>cases h
theorem p7 (hm:P.follows .mixedOrders=true) (d:zJ P G) {f:Nat} {args:List V} {O':aB} {v:V} (h:xS P G fuel f args O= .ret v O') {w:World} (hi:Inv Y O w) (u:GR Y G) (hx:dA Y args xs.toList)
  {R:Ending->World->Prop} (z:∀(Y':Ren) (w':World) (x:Value),Inv Y' O' w'->fb Y O w Y' O' w'->VR Y' v x->R (.returned x) w'):Calls P f xs w R:=
 callsIn_wide.1 (sK (J8 hm d fuel) h hi u hx none 0 z)
end
end Go.Ev
namespace Go.Ev
variable [Env] {H_:Type} {ds:List (DataW H_)} {before pa:List MemPlace} {P:Program} {enc:TypeId×Value->H_}
open Go.ChangeShapes Go.WideShapes Go.ChangeAt Go.RowKit
theorem iN.kept {w w':World} (h:iN w w') (may:MemPlace->Prop):w.keptBut w' may:=by
 refine⟨h.os,h.out.1,fun i hi=>?_⟩;rw[h.same i hi]
 grind
theorem iN.frozen {w w':World} (h:iN w w') (a:Addr) (d:a.block<w.heap.size):w'.frozen? a=w.frozen? a:=by
 unfold World.frozen?;rw[h.same a.block d]
theorem GZ {f:Func} {s:ChangeSpec} {apart fresh handsOn again:Bool} {W W':World} {args:Array Value} {v:Value} {gs:List (DataW H_)} {pv:List MemPlace}
  (B:DataW.Whole enc P f.params.toList s.vars apart W args.toList ds gs before)
  (z:∀(b:Nat) (sp:Nat->Bool) (hd:Bool),DataW.TrodAll enc P W' b sp hd f.resultTypes.toList (v.resultList f.resultTypes.size) (s.fn H_ (ds++gs)).results [])
  (d:∀sp:Nat->Bool,(∀p∈before,sp p.block=true)->DataW.TrodAll enc P W' 0 sp true f.params.toList args.toList (s.fn H_ (ds++gs)).args pa)
  (u:∀sp:Nat->Bool,(∀p∈before,sp p.block=true)->DataW.TrodVars enc P W' sp s.vars (s.fn H_ (ds++gs)).vars pv)
  (aa:before=pa++pv) (hk:iN W W')
  (C:∀(j:Nat) (t:TypeId) (r:Value),f.resultTypes[j]? =some t->(v.resultList f.resultTypes.size)[j]? =some r->Value.okWide P W' .any 0 t r):
  s.post enc P f apart fresh handsOn again W args v W':=by
 have hold:∀p∈before,(fun b=>decide (b<W.heap.size)) p.block=true:=fun p hp=>by simpa using B.lt p hp
 refine⟨ds,gs,before,[],pa,pv,B,z _ _ _,d _ hold,u _ hold,hk.kept _,fun _=>?_⟩;have hlt:=B.lt;obtain⟨_,_,_,_,_,hz,hn⟩:=B;refine⟨C,_,_,([]++pa)++pv,⟨[]++pa,pv,trodAll_append (d _ (fun _ _=>Z))<|z _ _ _,u _ (fun _ _=>Z),Z,?_,?_⟩,?_⟩
 ·intro b off hp;have A:MemPlace.cell b off∈before:=by simp_all
  rw[hk.frozen _<|hlt _ A];exact hz b off A
 ·simp_all
 simp_all
end Go.Ev
namespace Go.Ev
variable [Env]
variable {G:Cx} {j:Nat} {P:Program}
structure IK where
 k:IntKind
 n:Int
structure PO where
 b:Pos
 off:Nat
structure SL where
 b:Pos
 off:Nat
 len:Nat
def SB:V->Option IK
 | .int k n=>some ⟨k,n⟩
 | _=>none
def U5:V->Option PO
 | .ptr b off=>some ⟨b,off⟩
 | _=>none
def WG:V->Option SL
 | .slice b off len _=>some ⟨b,off,len⟩
 | _=>none
def WE:V->Option Nat
 | .int _ (.ofNat i)=>some i
 | _=>none
def WD:V->Option Bool
 | .bool b=>some b
 | _=>none
def WH:V->Option (List V)
 | .tuple l=>some l
 | _=>none
def rowOf:cN->Option (List V)
 | .row cells _ _=>some cells
 | .own cells _=>some cells
 | _=>none
theorem DB {v:V} {i:IK} (h:SB v=some i):v= .int i.k i.n:=by
 unfold SB at h;grind
def pL (O:aB) (e:Nat) (v:Option V):HR:=Option.rec (motive:=fun _=>HR) (.err e) (fun v=>.val v O) v
theorem nt (O:aB) (e:Nat) (v:Option V):pL O e v=match v with | some v=>.val v O | none=>.err e:=by cases v<;>rfl
structure V6 where
 run:PT V->Option V
def oq (G:Cx) (x:Operand):V6:=
 match x with
 | .tmp k=>bif Nat.ble k 255 then⟨fun t=>kS t.s k⟩ else⟨fun t=>t.get k⟩
 | .const v=>⟨fun _=>qq v⟩
 | .global g=>⟨fun _=>bif Nat.ble (Nat.succ g) G.gl then some (.ptr (posOf g) 0) else none⟩
 | .func f=>⟨fun _=>some (.func f [] [])⟩
theorem ji (G:Cx) (x:Operand) (t:PT V):(oq G x).run t=bI G t x:=by
 cases x with
 | tmp k=>
  show(bif Nat.ble k 255 then(⟨fun t=>kS t.s k⟩:V6) else⟨fun t=>t.get k⟩).run t=t.get k
  grind [PT.r9,oL]
 | _=>rfl
structure V4 where
 run:V->V->Option V
def LY (P:Program) (q:Bool) (o:BinOp) (ty:TypeId) (f:IntKind->Int->Int->V) (a b:V):Option V:=
 Option.rec (motive:=fun _=>Option V) (pH P q o ty a b) (fun i=>Option.rec (motive:=fun _=>Option V) (pH P q o ty a b) (fun j=>bif uE i.k j.k then some (f i.k i.n j.n) else none) (SB b)) (SB a)
theorem RF {q:Bool} {o:BinOp} {ty:TypeId} {f:IntKind->Int->Int->V} (h:∀k x k' y,pH P q o ty (.int k x) (.int k' y)=bif uE k k' then some (f k x y) else none) (a b:V):LY P q o ty f a b=pH P q o ty a b:=by
 unfold LY;cases d:SB a with
 | none=>rfl
 | some i=>
  cases hb:SB b with
  | none=>rfl
  | some j=>
   rw[DB d,DB hb,h]
def WS (_:IntKind) (x y:Int):V:=.bool (dH x y)
def WO (_:IntKind) (x y:Int):V:=.bool (dH y x)
def WR (_:IntKind) (x y:Int):V:=.bool (bif dH y x then false else true)
def WN (_:IntKind) (x y:Int):V:=.bool (bif dH x y then false else true)
def WM (_:IntKind) (x y:Int):V:=.bool (F x y)
def WU (_:IntKind) (x y:Int):V:=.bool (bif F x y then false else true)
def U3 (k:IntKind) (x y:Int):V:=.int k (wr k<|Int.add x y)
def VV (k:IntKind) (x y:Int):V:=.int k (wr k<|Int.sub x y)
def Vl (k:IntKind) (x y:Int):V:=.int k (wr k<|Int.mul x y)
def SU (P:Program) (q:Bool) (o:BinOp) (ty:TypeId):V4:=
 match o with
 | .lss=>⟨LY P q .lss ty WS⟩
 | .gtr=>⟨LY P q .gtr ty WO⟩
 | .leq=>⟨LY P q .leq ty WR⟩
 | .geq=>⟨LY P q .geq ty WN⟩
 | .eql=>⟨LY P q .eql ty WM⟩
 | .neq=>⟨LY P q .neq ty WU⟩
 | .add=>⟨LY P q .add ty U3⟩
 | .sub=>⟨LY P q .sub ty VV⟩
 | .mul=>⟨LY P q .mul ty Vl⟩
 | o=>⟨fun a b=>pH P q o ty a b⟩
theorem Rk (P:Program) (q:Bool) (o:BinOp) (ty:TypeId) (a b:V):(SU P q o ty).run a b=pH P q o ty a b:=by
 cases o<;>first | rfl | exact RF (fun _ _ _ _=>Z) a b
def SP (c:V4) (x y:Option V):Option V:=
 Option.rec (motive:=fun _=>Option V) none (fun a=>Option.rec (motive:=fun _=>Option V) none (fun b=>c.run a b) y) x
def Ij (c a b:Option V):Option V:=
 Option.rec (motive:=fun _=>Option V) none (fun c=>Option.rec (motive:=fun _=>Option V) none (fun c=>bif c then a else b) (WD c)) c
def S3 (i:Nat) (x:Option V):Option V:=
 Option.rec (motive:=fun _=>Option V) none (fun x=>Option.rec (motive:=fun _=>Option V) none (fun l=>nth l i) (WH x)) x
def Vk (ag:Option (Option Nat)) (cells:List V) (off:Nat):Option V:=
 Option.rec (motive:=fun _=>Option V) none (fun o=>Option.rec (motive:=fun _=>Option V) (nth cells off) (fun n=>bif Nat.ble (Nat.add off n) (dU cells) then some (.agg<|takeN (eA cells off) n) else none) o) ag
def Es (ag:Option (Option Nat)) (O:aB) (x:Option V):Option V:=
 Option.rec (motive:=fun _=>Option V) none (fun v=>Option.rec (motive:=fun _=>Option V) none (fun p=>Option.rec (motive:=fun _=>Option V) none
  (fun o=>Option.rec (motive:=fun _=>Option V) none (fun cells=>Vk ag cells p.off) (rowOf o)) (O.m.get p.b))<|U5 v) x
def og (P:Program) (s:TypeId) (i:Nat):Option Nat:=
 match structOf P s with
 | some fs=>match fs[i]? with
  | some f=>match vW P f.type with
   | some j=>bif Nat.beq j.size 0 then none else some f.offset
   | none=>none
  | none=>none
 | none=>none
def Uw (k:Option Nat) (x:Option V):Option V:=
 Option.rec (motive:=fun _=>Option V) none (fun k=>Option.rec (motive:=fun _=>Option V) none (fun v=>Option.rec (motive:=fun _=>Option V) none (fun p=>some (.ptr p.b<|Nat.add p.off k)) (U5 v)) x) k
structure IA where
 n:Option Nat
 sz:Nat
def yi (P:Program) (t:TypeId):Option IA:=
 match pw P t with
 | some (.slice e)=>match vW P e with | some j=>some ⟨none,j.size⟩ | none=>none
 | some (.array n e)=>match vW P e with | some j=>some ⟨some n,j.size⟩ | none=>none
 | _=>none
def Vj (q:IA) (v:V) (i:Nat):Option V:=
 Option.rec (motive:=fun _=>Option V)
  (Option.rec (motive:=fun _=>Option V) none (fun s=>bif Nat.ble (Nat.succ i) s.len then some (.ptr s.b<|Nat.add s.off<|Nat.mul i q.sz) else none)<|WG v)
  (fun n=>Option.rec (motive:=fun _=>Option V) none (fun p=>bif Nat.ble (Nat.succ i) n then some (.ptr p.b<|Nat.add p.off<|Nat.mul i q.sz) else none) (U5 v)) q.n
def Ux (q:Option IA) (x i:Option V):Option V:=
 Option.rec (motive:=fun _=>Option V) none (fun q=>Option.rec (motive:=fun _=>Option V) none (fun v=>Option.rec (motive:=fun _=>Option V) none
  (fun w=>Option.rec (motive:=fun _=>Option V) none (fun i=>Vj q v i) (WE w)) i) x) q
structure UY where
 run:PT V->aB->HR
def DL (P:Program) (G:Cx) (O:aB) (f:Option V) (args:Option (List V)):HR:=
 Option.rec (motive:=fun _=>HR) (.err 12) (fun g=>Option.rec (motive:=fun _=>HR) (.err 12) (fun args=>Ah P G.ov O g args) args) f
def Jt (G:Cx) (l:List Operand) (t:PT V):Option (List V):=dv (fun x=>(oq G x).run t) l
def Pn (P:Program) (G:Cx) (op:Op):UY:=
 match op with
 | .move x=>⟨fun t O=>pL O 1001 ((oq G x).run t)⟩
 | .assign x=>⟨fun t O=>pL O 1002 ((oq G x).run t)⟩
 | .pick c a b=>⟨fun t O=>pL O 1003 (Ij ((oq G c).run t) ((oq G a).run t) ((oq G b).run t))⟩
 | .binOp o ty x y _=>⟨fun t O=>pL O 1014 (SP (SU P (AP x || AP y) o ty) ((oq G x).run t) ((oq G y).run t))⟩
 | .extract x i=>⟨fun t O=>pL O 1036 (S3 i ((oq G x).run t))⟩
 | .load ty x=>⟨fun t O=>pL O 2009 (Es (dT P ty) O ((oq G x).run t))⟩
 | .fieldAddr s x i=>⟨fun t O=>pL O 1024 (Uw (og P s i) ((oq G x).run t))⟩
 | .indexAddr ty x i=>⟨fun t O=>pL O 1026 (Ux (yi P ty) ((oq G x).run t) ((oq G i).run t))⟩
 | .call c=>match c.callee with
  | .value f=>⟨fun t O=>DL P G O ((oq G f).run t) (Jt G c.args.toList t)⟩
  | _=>⟨fun t O=>eo P G (bI G t) O (.call c)⟩
 | op=>⟨fun t O=>eo P G (bI G t) O op⟩
theorem MB (P:Program) (G:Cx) (op:Op) (t:PT V) (O:aB):(Pn P G op).run t O=eo P G (bI G t) O op:=by
 cases op with
 | move x=>show pL O 1001 ((oq G x).run t)=_;rw[ji,nt];rfl
 | assign x=>show pL O 1002 ((oq G x).run t)=_;rw[ji,nt];rfl
 | pick c a b=>
  show pL O 1003 (Ij ((oq G c).run t) ((oq G a).run t) ((oq G b).run t))=_;rw[ji,ji,ji,nt]
  have:Ij (bI G t c) (bI G t a) (bI G t b)=eh P (bI G t) (.pick c a b):=by
   simp only[eh,Ij];cases bI G t c with
   | none=>rfl
   | some v=>cases v<;>first | rfl | (rename_i b;cases b<;>rfl)
  rw[this];rfl
 | binOp o ty x y r=>
  show pL O 1014 (SP (SU P (AP x || AP y) o ty) ((oq G x).run t) ((oq G y).run t))=_;rw[ji,ji,nt]
  have:SP (SU P (AP x || AP y) o ty) (bI G t x) (bI G t y)=eh P (bI G t) (.binOp o ty x y r):=by
   simp only[eh,SP];cases bI G t x with
   | none=>rfl
   | some v=>
    cases bI G t y with
    | none=>rfl
    | some u=>exact Rk P _ o ty v u
  rw[this];rfl
 | extract x i=>
  show pL O 1036 (S3 i ((oq G x).run t))=_;rw[ji,nt]
  have:S3 i (bI G t x)=eh P (bI G t) (.extract x i):=by
   simp only[eh,S3];cases bI G t x with
   | none=>rfl
   | some v=>cases v<;>rfl
  rw[this];rfl
 | load ty x=>
  show pL O 2009 (Es (dT P ty) O ((oq G x).run t))=_;rw[ji,nt]
  have:Es (dT P ty) O (bI G t x)=gE P (bI G t) O (.load ty x):=by
   simp only[gE,Es];cases bI G t x with
   | none=>rfl
   | some v=>
    cases v<;>first | rfl | skip
    rename_i b off;show Option.rec (motive:=fun _=>Option V) none _ (O.m.get b)=_;cases hb:O.m.get b with
    | none=>dsimp only;rw[hb]
    | some o=>
     dsimp only;rw[hb];cases o<;>first | rfl | skip
     all_goals
      show Vk (dT P ty) _ off=_;unfold Vk;cases dT P ty with
      | none=>rfl
      | some q=>cases q<;>rfl
  rw[this];rfl
 | fieldAddr s x i=>
  show pL O 1024 (Uw (og P s i) ((oq G x).run t))=_;rw[ji,nt]
  have:Uw (og P s i) (bI G t x)=eh P (bI G t) (.fieldAddr s x i):=by
   simp only[eh,og,qi];cases structOf P s with
   | none=>rfl
   | some fs=>
    dsimp only;cases hx:bI G t x with
    | none=>
     cases fs[i]? with
     | none=>rfl
     | some f=>dsimp only;cases P.info? f.type with
      | none=>rfl
      | some j=>dsimp only;cases Nat.beq j.size 0<;>rfl
    | some v=>
     cases hf:fs[i]? with
     | none=>cases v<;>first | rfl | (simp only[hf];rfl)
     | some f=>
      dsimp only;cases hj:P.info? f.type with
      | none=>cases v<;>first | rfl | (simp only[hf,hj];rfl)
      | some j=>
       dsimp only;cases hz:Nat.beq j.size 0<;>(cases v<;>first | rfl | (simp only[hf,hj,hz];rfl))
  rw[this];rfl
 | indexAddr ty x i=>
  show pL O 1026 (Ux (yi P ty) ((oq G x).run t) ((oq G i).run t))=_;rw[ji,ji,nt]
  have:Ux (yi P ty) (bI G t x) (bI G t i)=eh P (bI G t) (.indexAddr ty x i):=by
   simp only[eh,yi,qi,oH];cases hu:P.underlying ty with
   | none=>rfl
   | some d=>
    cases d<;>first | rfl | skip
    all_goals
     dsimp only;rename_i e;cases hj:P.info? e with
     | none=>
      cases bI G t x with
      | none=>rfl
      | some v=>cases v<;>first | rfl | (cases bI G t i with
       | none=>rfl
       | some u=>cases u<;>first | rfl | (rename_i k n;cases n<;>first | rfl | (simp only[hj];rfl)))
     | some j=>
      cases bI G t x with
      | none=>rfl
      | some v=>cases v<;>first | (cases bI G t i with
       | none=>rfl
       | some u=>cases u<;>first | rfl | (rename_i k n;cases n<;>first | rfl | (simp only[hj];rfl)))
  rw[this];rfl
 | call c=>
  cases z:c.callee with
  | value f=>
   have h1:(Pn P G (.call c)).run t O=DL P G O ((oq G f).run t) (Jt G c.args.toList t):=by
    show(match c.callee with
     | .value f=>(⟨fun t O=>DL P G O ((oq G f).run t) (Jt G c.args.toList t)⟩:UY)
     | _=>⟨fun t O=>eo P G (bI G t) O (.call c)⟩).run t O=_
    rw[z]
   have A:eo P G (bI G t) O (.call c)=gD P G.ov (bI G t) O (.call c):=by
    grind [eo,kindOf]
   have B:Jt G c.args.toList t=jv (bI G t) c.args.toList:=by
    unfold Jt jv;congr 1;funext x;exact ji G x t
   rw[h1,A,ji,B];simp only[gD,z,DL];cases bI G t f with
   | none=>rfl
   | some g=>cases jv (bI G t) c.args.toList<;>rfl
  | _=>
   show(match c.callee with
     | .value f=>(⟨fun t O=>DL P G O ((oq G f).run t) (Jt G c.args.toList t)⟩:UY)
     | _=>⟨fun t O=>eo P G (bI G t) O (.call c)⟩).run t O=_
   rw[z]
 | _=>rfl
structure SN where
 run:PT V->V->Nat->(PT V->CR)->CR
structure Wz where
 run:V->PT V->PT V
def KC (j:Nat):Wz:=
 bif Nat.ble j 255 then⟨fun v t=>PT.rec (motive:=fun _=>PT V) (fun s m l=>⟨(z1<|Nat.div j 16).run s ((z1<|Nat.mod j 16).run ((ka<|Nat.div j 16).run s)<|some v),m,l⟩) t⟩
 else⟨fun v t=>t.put (some v) j⟩
theorem R6 (j:Nat) (v:V) (t:PT V):(KC j).run v t=t.put (some v) j:=by
 unfold KC;cases h:Nat.ble j 255 with
 | true=>
  cases t with
  | mk s m l=>exact(PT.wg (some v) s m l ((oL j 255).1 h)).symm
 | false=>rfl
def R7 (j:Nat) (v:V) (t:PT V):PT V:=(KC j).run v t
theorem PG (j:Nat) (v:V) (t:PT V):R7 j v t=t.put (some v) j:=R6 j v t
def A8 (n:Nat) (dst:Option Nat):SN:=
 match dst with
 | none=>⟨fun t _ _ k=>k t⟩
 | some j=>bif Nat.ble (Nat.succ j) n then⟨fun t v _ k=>k (R7 j v t)⟩ else⟨fun _ _ e _=>.err e⟩
theorem y8 (n:Nat) (dst:Option Nat) (t:PT V) (v:V) (e:Nat) (k:PT V->CR):(A8 n dst).run t v e k=match dE t n dst v with | some t'=>k t' | none=>.err e:=by
 cases dst with
 | none=>rfl
 | some j=>
  show(bif Nat.ble (Nat.succ j) n then(⟨fun t v _ k=>k (R7 j v t)⟩:SN) else⟨fun _ _ e _=>.err e⟩).run t v e k=_;show _=match(bif Nat.ble (Nat.succ j) n then some (t.put (some v) j) else none) with | some t'=>k t' | none=>.err e
  rw[<-PG]
  grind
structure Wv where
 run:jY->List V->aB->KR
def VN (P:Program) (G:Cx) (ih:jY) (fn:Func) (r:CR):KR:=
 match r with
 | .ok .normal t d O=>zP P G ih fn .ret t d O
 | .ok .ret t d O=>zP P G ih fn .ret t d O
 | .ok (.kE v) t d O=>zP P G ih fn (.kE v) t d O
 | .err k=>.err k
 | _=>.err 72
def Rz (P:Program) (G:Cx) (fn:Func) (c:Code) (ih:jY) (args:List V) (O:aB):KR:=
 Option.rec (motive:=fun _=>KR) (.err 73) (fun t=>VN P G ih fn (ih c t fn.ntmps [] none O)) (rS fn.ntmps args)
def Vg (P:Program) (G:Cx) (f:Nat):Wv:=
 match nth P.funcs.toList f with
 | some fn=>match fn.body with
  | some c=>⟨Rz P G fn c⟩
  | none=>⟨fun _ _ _=>.err 73⟩
 | none=>⟨fun _ _ _=>.err 74⟩
theorem Ry (P:Program) (G:Cx) (f:Nat) (ih:jY) (args:List V) (O:aB):(Vg P G f).run ih args O=nU P G ih f args O:=by
 unfold Vg nU;rw[fY,aT_];cases P.funcs[f]? with
 | none=>rfl
 | some fn=>
  dsimp only;cases hb:fn.body with
  | none=>rfl
  | some c=>
   dsimp only;show Rz P G fn c ih args O=_;unfold Rz;cases rS fn.ntmps args with
   | none=>rfl
   | some t=>rfl
def DJ (P:Program) (G:Cx) (ih:jY) (f:Nat) (args:List V) (O:aB):KR:=
 Option.rec (motive:=fun _=>KR) (Option.rec (motive:=fun _=>KR) (Option.rec (motive:=fun _=>KR) (bif G.fk f then uY (LJ P G ih f args O) else(Vg P G f).run ih args O) (fun c=>.err c)<|G.stop f args O) (fun v=>bif fo args && (r6 v && kz G.gl O G.laid) then .ret v O else .err 79)<|G.NN f args) (fun r=>.ret r.1 r.2) (G.Gv f args O)
theorem DK (P:Program) (G:Cx) (ih:jY) (f:Nat) (args:List V) (O:aB):DJ P G ih f args O=kP P G ih f args O:=by
 unfold DJ kP;rw[Ry];cases G.Gv f args O with
 | some v=>rfl
 | none=>
 dsimp only;cases G.NN f args with
 | some v=>rfl
 | none=>
  dsimp only;cases G.stop f args O<;>rfl
structure Oq where
 run:jY->PT V->aB->(PT V->aB->CR)->CR
def Oh (k:PT V->aB->CR) (O:aB) (t:PT V):CR:=k t O
def Uy (pn:Bool) (c:SN) (t:PT V) (k:PT V->aB->CR) (r:KR):CR:=
 KR.rec (motive:=fun _=>CR) (fun v O=>c.run t v 80 (Oh k O)) (fun v O=>MU pn v t O) (fun e=>.err e) r
def O8 (P:Program) (G:Cx) (ih:jY) (pn:Bool) (c:SN) (t:PT V) (k:PT V->aB->CR) (r:HR):CR:=
 HR.rec (motive:=fun _=>CR) (fun v O=>c.run t v 80 (Oh k O)) (fun O=>c.run t unit 80 (Oh k O)) (fun f args O=>Uy pn c t k (DJ P G ih f args O)) (fun l args O=>Uy pn c t k (mG ih l args O)) (fun v O=>MU pn v t O) (fun e=>.err e) r
def NV (ops:Array Oper) (o:Oper) (c:SN) (t:PT V) (O:aB) (k:PT V->aB->CR) (go:CR) (w:Option Bool):CR:=
 Option.rec (motive:=fun _=>CR) (.err 85) (fun b=>bif b then go else c.run t unit 84 (Oh k O)) w
def Wp (P:Program) (G:Cx) (j:Nat) (op:Op):Option Oq:=
 match op with
 | .move x=>some ⟨fun _ t O k=>Option.rec (motive:=fun _=>CR) (.err 1001) (fun v=>k ((KC j).run v t) O) ((oq G x).run t)⟩
 | .assign x=>some ⟨fun _ t O k=>Option.rec (motive:=fun _=>CR) (.err 1002) (fun v=>k ((KC j).run v t) O) ((oq G x).run t)⟩
 | .binOp o ty x y _=>some ⟨fun _ t O k=>Option.rec (motive:=fun _=>CR) (.err 1014) (fun v=>k ((KC j).run v t) O) (SP (SU P (AP x || AP y) o ty) ((oq G x).run t) ((oq G y).run t))⟩
 | .extract x i=>some ⟨fun _ t O k=>Option.rec (motive:=fun _=>CR) (.err 1036) (fun v=>k ((KC j).run v t) O) (S3 i ((oq G x).run t))⟩
 | .load ty x=>some ⟨fun _ t O k=>Option.rec (motive:=fun _=>CR) (.err 2009) (fun v=>k ((KC j).run v t) O) (Es (dT P ty) O ((oq G x).run t))⟩
 | .fieldAddr s x i=>some ⟨fun _ t O k=>Option.rec (motive:=fun _=>CR) (.err 1024) (fun v=>k ((KC j).run v t) O) (Uw (og P s i) ((oq G x).run t))⟩
 | .indexAddr ty x i=>some ⟨fun _ t O k=>Option.rec (motive:=fun _=>CR) (.err 1026) (fun v=>k ((KC j).run v t) O) (Ux (yi P ty) ((oq G x).run t) ((oq G i).run t))⟩
 | _=>none
theorem Sl {pn:Bool} {n:Nat} (hj:Nat.ble (Nat.succ j) n=true) {op:Op} {c:Oq} (h:Wp P G j op=some c) (ih:jY) (t:PT V) (O:aB) (k:PT V->aB->CR):
  c.run ih t O k=O8 P G ih pn (A8 n<|some j) t k ((Pn P G op).run t O):=by
 have key:∀(e:Nat) (x:Option V),Option.rec (motive:=fun _=>CR) (.err e) (fun v=>k ((KC j).run v t) O) x=O8 P G ih pn (A8 n<|some j) t k (pL O e x):=by
  intro e x;cases x with
  | none=>rfl
  | some v=>
   show k ((KC j).run v t) O=(A8 n<|some j).run t v 80 (Oh k O);unfold A8;dsimp only;rw[hj];rfl
 cases op<;>first | (cases h;done) | (cases h;exact key _ _)
def VU (P:Program) (G:Cx) (pn:Bool) (n:Nat) (o:Oper):Oq:=
 match o.dst with
 | some j=>bif Nat.ble (Nat.succ j) n then(match Wp P G j o.op with | some c=>c | none=>⟨fun ih t O k=>O8 P G ih pn (A8 n<|some j) t k ((Pn P G o.op).run t O)⟩) else⟨fun ih t O k=>O8 P G ih pn (A8 n<|some j) t k ((Pn P G o.op).run t O)⟩
 | none=>⟨fun ih t O k=>O8 P G ih pn (A8 n none) t k ((Pn P G o.op).run t O)⟩
theorem Sk (P:Program) (G:Cx) (pn:Bool) (n:Nat) (o:Oper) (ih:jY) (t:PT V) (O:aB) (k:PT V->aB->CR):(VU P G pn n o).run ih t O k=O8 P G ih pn (A8 n o.dst) t k ((Pn P G o.op).run t O):=by
 unfold VU;cases hd:o.dst with
 | none=>rfl
 | some j=>
  dsimp only;cases hj:Nat.ble (Nat.succ j) n with
  | false=>rfl
  | true=>
   simp only[cond_true]
   grind [Sl]
def Om (P:Program) (G:Cx) (pn:Bool) (ops:Array Oper) (n:Nat) (o:Oper):Oq:=
 match o.guard with
 | none=>VU P G pn n o
 | some _=>⟨fun ih t O k=>NV ops o (A8 n o.dst) t O k (O8 P G ih pn (A8 n o.dst) t k ((Pn P G o.op).run t O)) (bR ops t o)⟩
theorem LS (P:Program) (G:Cx) (ih:jY) (pn:Bool) (n:Nat) (dst:Option Nat) (t:PT V) (k:PT V->aB->CR) (r:HR):
  O8 P G ih pn (A8 n dst) t k r=match lf P G ih r with | .ret v O'=>(match dE t n dst v with | some t'=>k t' O' | none=>.err 80) | .kE v O'=>MU pn v t O' | .err e=>.err e:=by
 cases r with
 | val v O=>show(A8 n dst).run t v 80 (Oh k O)=_;rw[y8];rfl
 | skip O=>show(A8 n dst).run t unit 80 (Oh k O)=_;rw[y8];rfl
 | enter f args O=>
  show Uy pn (A8 n dst) t k (DJ P G ih f args O)=_;rw[DK];show _=match kP P G ih f args O with | .ret v O'=>_ | .kE v O'=>_ | .err e=>_
  cases kP P G ih f args O with
  | ret v O'=>show(A8 n dst).run t v 80 (Oh k O')=_;rw[y8];rfl
  | kE v O'=>rfl
  | err e=>rfl
 | round l args O=>
  show Uy pn (A8 n dst) t k (mG ih l args O)=_;show _=match mG ih l args O with | .ret v O'=>_ | .kE v O'=>_ | .err e=>_
  cases mG ih l args O with
  | ret v O'=>show(A8 n dst).run t v 80 (Oh k O')=_;rw[y8];rfl
  | kE v O'=>rfl
  | err e=>rfl
 | kE v O=>rfl
 | err e=>rfl
theorem Hg (P:Program) (G:Cx) (pn:Bool) (ops:Array Oper) (n:Nat) (o:Oper) (ih:jY) (t:PT V) (O:aB) (k:PT V->aB->CR):(Om P G pn ops n o).run ih t O k=iy P G ih pn ops n o t O k:=by
 unfold Om iy;cases hg:o.guard with
 | none=>
  grind [bR,Sk,LS,MB]
 | some jw=>
  show NV ops o (A8 n o.dst) t O k (O8 P G ih pn (A8 n o.dst) t k ((Pn P G o.op).run t O)) (bR ops t o)=_;rw[LS,MB];unfold NV;cases bR ops t o with
  | none=>rfl
  | some b=>
   grind [Oh,y8]
def PQ (P:Program) (G:Cx) (ops:Array Oper) (n:Nat) (l:List Oper):Oq:=
 List.rec (motive:=fun _=>Oq) ⟨fun _ t O k=>k t O⟩ (fun o _ c=>⟨fun ih t O k=>(Om P G true ops n o).run ih t O (fun t O=>c.run ih t O k)⟩) l
def zO (d:List DE) (t:PT V) (O:aB):CR:=.ok .normal t d O
theorem Is (P:Program) (G:Cx) (ops:Array Oper) (n:Nat) (ih:jY) (d:List DE):∀(l:List Oper) (t:PT V) (O:aB),(PQ P G ops n l).run ih t O (zO d)=oY P G ih ops n d l t O
 | [],t,O=>rfl
 | o::l,t,O=>by
  show(Om P G true ops n o).run ih t O (fun t O=>(PQ P G ops n l).run ih t O (zO d))=iy P G ih true ops n o t O (oY P G ih ops n d l);rw[Hg];congr 1;funext t' O';exact Is P G ops n ih d l t' O'
def BD (P:Program) (G:Cx) (ops:Array Oper) (rc:List Nat) (k:PT V->aB->CR) (t:PT V) (O:aB):CR:=bif dy P G ops t O rc then k t O else .err 86
def yZ (P:Program) (G:Cx) (ops:Array Oper) (n:Nat) (l:List (Nat×List Nat)):Oq:=
 List.rec (motive:=fun _=>Oq) ⟨fun _ t O k=>k t O⟩ (fun p _ c=>match nth ops.toList p.1 with
  | some o=>(match p.2 with
   | []=>⟨fun ih t O k=>(Om P G false ops n o).run ih t O (fun t O=>c.run ih t O k)⟩
   | rc=>⟨fun ih t O k=>(Om P G false ops n o).run ih t O (BD P G ops rc (fun t O=>c.run ih t O k))⟩)
  | none=>⟨fun _ _ _ _=>.err 87⟩) l
theorem y3 (P:Program) (G:Cx) (ops:Array Oper) (n:Nat) (ih:jY) (d:List DE):∀(l:List (Nat×List Nat)) (t:PT V) (O:aB),(yZ P G ops n l).run ih t O (zO d)=ki P G ih ops n d l t O
 | [],t,O=>rfl
 | (i,rc)::l,t,O=>by
  show(match nth ops.toList i with
   | some o=>(match rc with
    | []=>(⟨fun ih t O k=>(Om P G false ops n o).run ih t O (fun t O=>(yZ P G ops n l).run ih t O k)⟩:Oq)
    | rc=>⟨fun ih t O k=>(Om P G false ops n o).run ih t O (BD P G ops rc (fun t O=>(yZ P G ops n l).run ih t O k))⟩)
   | none=>⟨fun _ _ _ _=>.err 87⟩).run ih t O (zO d)=(match ops[i]? with
   | some o=>iy P G ih false ops n o t O (fun t' O'=>bif dy P G ops t' O' rc then ki P G ih ops n d l t' O' else .err 86)
   | none=>.err 87)
  rw[fY,aT_];cases ops[i]? with
  | none=>rfl
  | some o=>
   dsimp only;cases rc with
   | nil=>
    show(Om P G false ops n o).run ih t O (fun t O=>(yZ P G ops n l).run ih t O (zO d))=_;rw[Hg];congr 1;funext t' O';exact y3 P G ops n ih d l t' O'
   | cons q rc=>
    show(Om P G false ops n o).run ih t O (BD P G ops (q::rc) (fun t O=>(yZ P G ops n l).run ih t O (zO d)))=_;rw[Hg];congr 1;funext t' O';unfold BD;dsimp only;rw[y3 P G ops n ih d l t' O']
structure UT where
 run:jY->PT V->List DE->Option Pos->aB->CR
def U9 (P:Program) (G:Cx) (c:Code) (n:Nat):UT:=
 match c with
 | .skip | .label _=>⟨fun _ t d _ O=>.ok .normal t d O⟩
 | .region _ ops draw=>bif draw then(bif uO P ops then⟨fun ih t d _ O=>(yZ P G ops n<|lj P ops).run ih t O (zO d)⟩ else⟨fun _ _ _ _ _=>.err 88⟩)
   else(bif mu ops.toList then⟨fun _ _ _ _ _=>.err 96⟩ else⟨fun ih t d _ O=>D8 d ((PQ P G ops n ops.toList).run ih t O<|zO d)⟩)
 | .seq a b=>⟨fun ih t d ro O=>wC (ih a t n d ro O) (fun t d O=>ih b t n d ro O)⟩
 | .cond x a b=>⟨fun ih t d ro O=>Aw ((oq G x).run t) (ih a t n d ro O) (ih b t n d ro O)⟩
 | .block id b=>⟨fun ih t d ro O=>sB id (ih b t n d ro O)⟩
 | .scope b=>⟨fun ih t d ro O=>vn (ih b t n d ro O)⟩
 | .loop b=>⟨fun ih t d ro O=>wC (ih b t n d ro O) (fun t d O=>ih (.loop b) t n d ro O)⟩
 | .exit id=>⟨fun _ t d _ O=>.ok (.exit id) t d O⟩
 | .ret=>⟨fun _ t d _ O=>.ok .ret t d O⟩
 | .rangeFunc g ps assign body=>⟨fun ih t d ro O=>vk P G ih g ps assign body t n d ro O⟩
 | _=>⟨fun _ _ _ _ _=>.err 99⟩
theorem Rr (P:Program) (G:Cx) (c:Code) (n:Nat) (ih:jY) (t:PT V) (d:List DE) (ro:Option Pos) (O:aB):(U9 P G c n).run ih t d ro O=ID P G ih c t n d ro O:=by
 cases c with
 | region id ops draw=>
  cases draw with
  | false=>
   show(bif mu ops.toList then(⟨fun _ _ _ _ _=>.err 96⟩:UT) else⟨fun ih t d _ O=>D8 d ((PQ P G ops n ops.toList).run ih t O<|zO d)⟩).run ih t d ro O=bif mu ops.toList then .err 96 else D8 d (oY P G ih ops n d ops.toList t O)
   grind [Is]
  | true=>
   show(bif uO P ops then(⟨fun ih t d _ O=>(yZ P G ops n<|lj P ops).run ih t O (zO d)⟩:UT) else⟨fun _ _ _ _ _=>.err 88⟩).run ih t d ro O=vM P G ih ops n d t O
   grind [vM,y3]
 | cond x a b=>show Aw ((oq G x).run t) _ _=_;rw[ji];rfl
 | _=>rfl
def Se (P:Program) (G:Cx) (fuel:Nat):jY:=Nat.rec (motive:=fun _=>jY) (fun _ _ _ _ _ _=>.err 100) (fun _ ih c t n d ro O=>(U9 P G c n).run ih t d ro O) fuel
theorem Iy (P:Program) (G:Cx):∀(fuel:Nat),Se P G fuel=eI P G fuel
 | 0=>rfl
 | k+1=>by
  funext c t n d ro O;show(U9 P G c n).run (Se P G k) t d ro O=ID P G (eI P G k) c t n d ro O;rw[Rr,Iy P G k]
def D5 (P:Program) (G:Cx) (fuel:Nat) (f:Nat) (args:List V) (O:aB):KR:=DJ P G (Se P G fuel) f args O
theorem Lx (P:Program) (G:Cx) (fuel:Nat) (f:Nat) (args:List V) (O:aB):D5 P G fuel f args O=xS P G fuel f args O:=by
 unfold D5 xS;rw[DK,Iy]
end Go.Ev
namespace Go.Ev
variable [Env] {G:Cx} {fuel:Nat} {P:Program} {Y:Ren}
open Go.ChangeShapes Go.WideShapes Go.ChangeAt Go.RowKit
def AF (one:TypeId->DataW Unit->Option (List Value)) (P:Program):List (Nat×TypeId)->Nat->List (DataW Unit)->Option (List Value)
 | [],_,[]=>some []
 | (o,t)::l,off,d::ds=>
  match one t d,AF one P l (off+P.cellsOf t) ds with
  | some vs,some us=>if o=off/\vs.length=P.cellsOf t then some (vs++us) else none
  | _,_=>none
 | _,_,_=>none
def r7 (P:Program):Nat->TypeId->DataW Unit->Option (List Value)
 | 0,_,_=>none
 | n+1,t,d=>
  match P.underlying t,d with
  | some .bool,.lit (.bool b)=>some [.bool b]
  | some (.int k),.lit (.int k' i)=>if k'=k then some [.int k i] else none
  | some (.struct fs),.agg ps=>match AF (r7 P n) P (fs.toList.map fun f=>(f.offset,f.type)) 0 ps with
   | some vs=>if vs.length=P.cellsOf t then some vs else none
   | none=>none
  | some (.array m e),.agg ps=>match AF (r7 P n) P ((List.range m).map fun i=>(i*P.cellsOf e,e)) 0 ps with
   | some vs=>if vs.length=P.cellsOf t then some vs else none
   | none=>none
  | _,_=>none
theorem xZ {P:Program} {w:World} {base:Nat} {sp:Nat->Bool} {held:Bool} {fuel:Nat} {one:TypeId->DataW Unit->Option (List Value)} {cs:List Value}
  (ih:∀t l d p vs,DataW.trod (fun _=>()) P w base sp held fuel t l=some (d,p)->one t d=some vs->l=vs) {α:Type} (g:α->Nat×TypeId):
  ∀(l:List α) (off:Nat) (xs:List (DataW Unit×List MemPlace)) (vs:List Value),
   (l.mapM fun x=>DataW.trod (fun _=>()) P w base sp held fuel (g x).2 ((cs.drop (g x).1).take<|P.cellsOf (g x).2))=some xs->AF one P (l.map g) off (xs.map (·.1))=some vs->
   (cs.drop off).take vs.length=vs
 | [],off,xs,vs,h,hf=>by
  simp at h;subst h;simp[AF] at hf;subst hf;simp
 | x::l,off,xs,vs,h,hf=>by
  simp only[List.mapM_cons,Option.bind_eq_bind,Option.bind_eq_some_iff,Option.pure_def,oJ_] at h;obtain⟨⟨d,p⟩,h1,r,u,rfl⟩:=h;simp only[List.map_cons,AF] at hf;split at hf
  ·rename_i v1 z e1 e2;split at hf
   ·rename_i A;obtain⟨ho,hl⟩:=A;cases hf;have k1:=ih _ _ _ _ _ h1 e1;have k2:=xZ ih g l _ r z u e2
    grind [zl_]
   cases hf
  cases hf
theorem D9 {P:Program} {w:World} {base:Nat} {sp:Nat->Bool} {held:Bool}:∀(m fuel:Nat) (t:TypeId) (cs:List Value) (d:DataW Unit) (p:List MemPlace) (vs:List Value),
  DataW.trod (fun _=>()) P w base sp held fuel t cs=some (d,p)->r7 P m t d=some vs->cs=vs
 | 0,_,_,_,_,_,_,_,h=>by cases h
 | _+1,0,_,_,_,_,_,h,_=>by simp[DataW.trod] at h
 | m+1,fuel+1,t,cs,d,p,vs,h,hf=>by
  have ih:∀t l d p vs,DataW.trod (fun _=>()) P w base sp held fuel t l=some (d,p)->r7 P m t d=some vs->l=vs:=fun t l d p vs=>D9 m fuel t l d p vs
  simp only[r7] at hf;split at hf
  ·rename_i hu;cases hf;unfold DataW.trod at h
   grind
  ·rename_i hu;split at hf
   ·rename_i hk;cases hf;unfold DataW.trod at h
    grind
   cases hf
  ·rename_i fs ps hu;split at hf
   ·rename_i vs' z;split at hf
    ·rename_i hl;cases hf;unfold DataW.trod at h;rw[hu] at h;dsimp only at h;split at h
     ·rename_i A;obtain⟨xs,hm,hx⟩:=oM_.1 h;have u:ps=xs.map (·.1):=by simp_all
      subst u;have:=xZ (cs:=cs) ih (fun f:Field=>(f.offset,f.type)) fs.toList 0 xs vs hm z
      grind
     cases h
    cases hf
   cases hf
  ·rename_i n e ps hu;split at hf
   ·rename_i vs' z;split at hf
    ·rename_i hl;cases hf;unfold DataW.trod at h;rw[hu] at h;dsimp only at h;split at h
     ·rename_i A;obtain⟨xs,hm,hx⟩:=oM_.1 h;have u:ps=xs.map (·.1):=by simp_all
      subst u;have:=xZ (cs:=cs) ih (fun i:Nat=>(i*P.cellsOf e,e)) (List.range n) 0 xs vs hm z
      grind
     cases h
    cases hf
   cases hf
  cases hf
theorem oV {w:World} {l:List (String×DataW Unit)} (n:String) {d:DataW Unit} {g:Nat} {t:TypeId} {m:Nat} {vs:List Value}
  (h:laidMetH P l w) (hl:l.filter (fun x=>x.1 == n)= [(n,d)]) (hd:d.handleName? =none) (z:P.globalNamed n=some g) (C:(P.globals[g]?).map (·.type)=some t) (hf:r7 P m t d=some vs):
  ∃e fr,w.heap[g]? =some (.cells vs.toArray e fr):=by
 have h1:=h.filter fun x=>x.1 == n
 rw[hl] at h1
 have E:laidMet P [(n,d)] w:=by
  grind [laidMetH]
 obtain⟨ps,⟨g',t',cs,fuel,p,q,A,B,u,G,_,_⟩,_,_⟩:=E;rw[z] at A;cases A;rw[C] at B;cases B;have k5:=D9 m fuel t cs.toList d p vs G hf;unfold World.var? at u;rw[z] at u;simp only[Option.bind_some] at u;split at u
 ·rename_i cs' e fr hh;cases u;exact⟨e,fr,by rw[hh,<-k5]⟩
 cases u
theorem xn {α β:Type} {f:α->Option β}:∀{l:List α} {r:List β},dv f l=some r->r.length=l.length/\∀(i:Nat) (v:β),r[i]? =some v->∃y,l[i]? =some y/\f y=some v
 | [],r,h=>by
  rw[ij] at h;simp_all
 | x::l,r,h=>by
  obtain⟨y,r',h1,d,rfl⟩:=gJ h;obtain⟨k1,k2⟩:=xn d
  grind
theorem k9.of {w:World} {g:Nat} {cells:List V} {vs:List Value} {e:TypeId} {fr:Nat×Nat} (hb:w.heap[g]? =some (.cells vs.toArray e fr)) (hv:dv kC vs=some cells):k9 w (g,cells):=by
 obtain⟨d,k2⟩:=xn hv;refine⟨vs.toArray,e,fr,hb,by simp[d],fun i v hi=>?_⟩
 grind [oX]
def σG (gl:Nat) (l:List (Nat×List V)) (E:Nat->TypeId):aB:=⟨gl,Gw l E⟩
theorem OG_get {gl:Nat} {l:List (Nat×List V)} {E:Nat->TypeId} {b:Nat} {o:cN} (h:(σG gl l E).m.get b=some o):∃x∈l,x.1=b/\o= .row x.2 (E x.1) true:=yB E h
def zn (w:World) (b:Nat):Nat:=
 match w.heap[b]? with
 | some (.cells cs _ _)=>cs.size
 | _=>0
def elemAt (w:World) (b:Nat):TypeId:=
 match w.heap[b]? with
 | some (.cells _ e _)=>e
 | _=>0
def YG (w:World) (gl:Nat):Ren:=fun b=>if b<gl then some ⟨b,0,zn w b⟩ else none
theorem YG_some {w:World} {gl:Nat} {b:Nat} {l:Loc} (h:YG w gl b=some l):b<gl/\l=⟨b,0,zn w b⟩:=by
 unfold YG at h
 simp_all
def Di (gl:Nat) (l:List (Nat×List V)):Bool:=l.all fun x=>Nat.blt x.1 gl && fo x.2
theorem S9 {w:World} {gl:Nat} {l:List (Nat×List V)} (B:KF w) (ab:gl<=w.heap.size) (u:Di gl l=true) (hl:∀x∈l,k9 w x):Inv (YG w gl) (σG gl l<|elemAt w) w:=by
 have aa:∀x∈l,x.1<gl/\fo x.2=true:=fun x hx=>by
  have:=aE_.1 u x hx
  simp_all
 refine⟨⟨fun b hb=>?_,fun b l' h=>?_,fun b o l' h1 d=>?_,fun b b' o o' l1 l2 h1 d h3 h4 he hne=>?_⟩,B.1,B.2,fun r _ ⟨b,o,l',h1,d,_,_⟩=>by
  obtain⟨x,_,_,rfl⟩:=OG_get h1;cases d⟩
 ·have z:¬b<gl:=Nat.not_lt.2 hb;refine⟨by unfold YG;rw[if_neg z],?_⟩;cases h:(σG gl l<|elemAt w).m.get b with
  | none=>rfl
  | some o=>
   obtain⟨x,hx,rfl,_⟩:=OG_get h
   grind
 ·obtain⟨hb,rfl⟩:=YG_some h
  grind
 ·obtain⟨x,hx,rfl,rfl⟩:=OG_get h1;obtain⟨hb,rfl⟩:=YG_some d;obtain⟨c,e,fr,A,k2,k3⟩:=hl x hx;have C:zn w x.1=c.size:=by unfold zn;rw[A]
  have he:elemAt w x.1=e:=by unfold elemAt;rw[A]
  refine⟨_,A,c,fr,by rw[he],?_,?_,fun i v hv=>?_,fun h=>by cases h⟩
  ·simp[C]
  ·simp_all
  grind [oi,kO]
 obtain⟨x,hx,rfl,rfl⟩:=OG_get h1;obtain⟨y,hy,rfl,rfl⟩:=OG_get d;exact⟨Z,Z⟩
theorem iN.Pk {w w':World} {gl:Nat} {l:List (Nat×List V)} {E:Nat->TypeId} {Y':Ren} {O':aB} (h:fb Y (σG gl l E) w Y' O' w'):iN w w':=
 ⟨h.os,h.out,h.tape,h.size,fun r d=>h.frame r d fun⟨b,o,l',h1,u,_⟩=>by
  obtain⟨x,_,_,rfl⟩:=OG_get h1;cases u⟩
def qJ:KR->Bool
 | .ret (.bool true) _=>true
 | _=>false
theorem CQ {r:KR} (h:qJ r=true):∃O,r= .ret (.bool true) O:=by
 unfold qJ at h
 grind
theorem FW (hm:P.follows .mixedOrders=true) (z:zJ P G) {f:Nat} {w:World} (A:KF w) (d:G.gl<=w.heap.size) (u:Di G.gl G.laid=true) (hl:∀x∈G.laid,k9 w x)
  (h:∀E,qJ (D5 P G fuel f [] (σG G.gl G.laid E))=true):Calls P f #[] w fun e w'=>e= .returned (.bool true)/\iN w w':=by
 have h:=h (elemAt w);rw[Lx] at h;obtain⟨O,h⟩:=CQ h;refine p7 hm z h (S9 A d u hl) (fun g B=>⟨_,by show YG w G.gl g=_;unfold YG;rw[if_pos B]⟩) dA.nil fun Y' w' x _ st hv=>?_
 grind [VR,iN.Pk]
theorem Gu (hm:P.follows .mixedOrders=true) (z:zJ P G) {f:Nat} (d:Di G.gl G.laid=true) (h:∀E,qJ (D5 P G fuel f [] (σG G.gl G.laid E))=true):Hu P G.gl G.laid f [] (.bool true):=fun w xs u A hl hx=>by
 have:xs= #[]:=by
  have:=hx.eK
  simp_all
 subst this;exact(FW hm z (w:=w) A u d hl h).mono fun e w' ⟨h1,B⟩=>⟨_,h1,by simp only[VR],B⟩
end Go.Ev
namespace Go.Ev
variable [Env]
variable {ops:Array Oper} {rc:List Nat} {x:Operand} {σ₁:aB}
section
variable {P:Program} {G:Cx}
def Ev (P:Program) (G:Cx) (c:Code) (n:Nat) (t:PT V) (O:aB) (Q:Ex->PT V->aB->Prop):Prop:=
 ∃(K:Nat) (e:Ex) (t':PT V) (O':aB),(∀d ro k,K<=k->eI P G k c t n d ro O= .ok e t' d O')/\Q e t' O'
def bh (P:Program) (G:Cx) (f:Nat) (args:List V) (O:aB) (R:V->aB->Prop):Prop:=
 ∃(K:Nat) (v:V) (O':aB),(∀k,K<=k->kP P G (eI P G k) f args O= .ret v O')/\R v O'
def bZ (P:Program) (G:Cx) (ops:Array Oper) (n:Nat) (l:List Oper) (t:PT V) (O:aB) (Q:Ex->PT V->aB->Prop):Prop:=
 ∃(K:Nat) (e:Ex) (t':PT V) (O':aB),(∀d k,K<=k->oY P G (eI P G k) ops n d l t O= .ok e t' d O')/\Q e t' O'
def cR (P:Program) (G:Cx) (ops:Array Oper) (n:Nat) (l:List (Nat×List Nat)) (t:PT V) (O:aB) (Q:Ex->PT V->aB->Prop):Prop:=
 ∃(K:Nat) (e:Ex) (t':PT V) (O':aB),(∀d k,K<=k->ki P G (eI P G k) ops n d l t O= .ok e t' d O')/\Q e t' O'
theorem Ev.mono {c:Code} {n:Nat} {t:PT V} {O:aB} {Q Q':Ex->PT V->aB->Prop} (h:Ev P G c n t O Q) (hq:∀e t' O',Q e t' O'->Q' e t' O'):Ev P G c n t O Q':=
 let ⟨K,e,t',O',h1,d⟩:=h;⟨K,e,t',O',h1,hq _ _ _ d⟩
theorem bh.mono {f:Nat} {args:List V} {O:aB} {R R':V->aB->Prop} (h:bh P G f args O R) (hq:∀v O',R v O'->R' v O'):bh P G f args O R':=
 let ⟨K,v,O',h1,d⟩:=h;⟨K,v,O',h1,hq _ _ d⟩
section
variable {n:Nat} {t:PT V} {O:aB} {Q:Ex->PT V->aB->Prop}
theorem aI (h:Q .normal t O):Ev P G .skip n t O Q:=⟨1,.normal,t,O,fun d ro k hk=>by obtain⟨j,rfl⟩:∃j,k=j+1:=⟨k-1,by omega⟩;rfl,h⟩
theorem D4 {l:Nat} (h:Q .normal t O):Ev P G (.label l) n t O Q:=⟨1,.normal,t,O,fun d ro k hk=>by obtain⟨j,rfl⟩:∃j,k=j+1:=⟨k-1,by omega⟩;rfl,h⟩
theorem bn {id:Nat} (h:Q (.exit id) t O):Ev P G (.exit id) n t O Q:=⟨1,_,t,O,fun d ro k hk=>by obtain⟨j,rfl⟩:∃j,k=j+1:=⟨k-1,by omega⟩;rfl,h⟩
theorem aJ (h:Q .ret t O):Ev P G .ret n t O Q:=⟨1,_,t,O,fun d ro k hk=>by obtain⟨j,rfl⟩:∃j,k=j+1:=⟨k-1,by omega⟩;rfl,h⟩
def dF (P:Program) (G:Cx) (n:Nat) (b:Code) (Q:Ex->PT V->aB->Prop) (e:Ex) (t:PT V) (O:aB):Prop:=
 match e with
 | .normal=>Ev P G b n t O Q
 | e=>Q e t O
theorem al {a b:Code} (h:Ev P G a n t O (dF P G n b Q)):Ev P G (.seq a b) n t O Q:=by
 obtain⟨K,e,t',O',h1,u⟩:=h
 have step:∀d ro k,K<=k->eI P G (k+1) (.seq a b) t n d ro O=wC (.ok e t' d O') (fun t d O=>eI P G k b t n d ro O):=fun d ro k hk=>by
  show wC (eI P G k a t n d ro O) (fun t d O=>eI P G k b t n d ro O)=_;rw[h1 d ro k hk]
 cases e with
 | normal=>
  obtain⟨z,e2,A,B,C,E⟩:=u;refine⟨max K z+1,e2,A,B,fun d ro k hk=>?_,E⟩;obtain⟨j,rfl⟩:∃j,k=j+1:=⟨k-1,by omega⟩;rw[step d ro j oM];exact C d ro j oM
 | _=>
  refine⟨K+1,_,t',O',fun d ro k hk=>?_,u⟩;obtain⟨j,rfl⟩:∃j,k=j+1:=⟨k-1,by omega⟩;rw[step d ro j oM];rfl
theorem B0 {a b:Code} {c:Bool} (u:bI G t x=some (.bool c)) (h:Ev P G (if c then a else b) n t O Q):Ev P G (.cond x a b) n t O Q:=by
 obtain⟨K,e,t',O',h1,z⟩:=h;refine⟨K+1,e,t',O',fun d ro k hk=>?_,z⟩;obtain⟨j,rfl⟩:∃j,k=j+1:=⟨k-1,by omega⟩;show Aw (bI G t x) (eI P G j a t n d ro O) (eI P G j b t n d ro O)=_;rw[u];have:=h1 d ro j oM;cases c<;>exact this
def jb (id:Nat) (Q:Ex->PT V->aB->Prop) (e:Ex) (t:PT V) (O:aB):Prop:=
 match e with
 | .exit j=>if j=id then Q .normal t O else Q (.exit j) t O
 | e=>Q e t O
theorem aK {id:Nat} {b:Code} (h:Ev P G b n t O (jb id Q)):Ev P G (.block id b) n t O Q:=by
 obtain⟨K,e,t',O',h1,u⟩:=h
 have step:∀d ro k,K<=k->eI P G (k+1) (.block id b) t n d ro O=sB id (.ok e t' d O'):=fun d ro k hk=>by
  show sB id (eI P G k b t n d ro O)=_;rw[h1 d ro k hk]
 cases e with
 | exit q=>
  by_cases hq:q=id
  ·subst hq;refine⟨K+1,.normal,t',O',fun d ro k hk=>?_,by simpa [jb] using u⟩;obtain⟨j,rfl⟩:∃j,k=j+1:=⟨k-1,by omega⟩;rw[step d ro j oM];show(bif Nat.beq q q then _ else _)=_
   simp_all
  refine⟨K+1,.exit q,t',O',fun d ro k hk=>?_,by simpa [jb,hq] using u⟩;obtain⟨j,rfl⟩:∃j,k=j+1:=⟨k-1,by omega⟩;rw[step d ro j oM];show(bif Nat.beq q id then _ else _)=_
  grind [nB]
 | _=>
  refine⟨K+1,_,t',O',fun d ro k hk=>?_,u⟩;obtain⟨j,rfl⟩:∃j,k=j+1:=⟨k-1,by omega⟩;rw[step d ro j oM];rfl
theorem OW {b:Code} (I:Nat->PT V->aB->Prop) (step:∀j t O,I j t O->Ev P G b n t O (fun e t' O'=>match e with | .normal=>∃i,i<j/\I i t' O' | e=>Q e t' O')):
  ∀(j:Nat) (t:PT V) (O:aB),I j t O->Ev P G (.loop b) n t O Q:=by
 intro j;induction j using Nat.strongRecOn with
 | _ j ih=>
  intro t O A;obtain⟨K,e,t',O',h1,z⟩:=step j t O A
  have st:∀d ro k,K<=k->eI P G (k+1) (.loop b) t n d ro O=wC (.ok e t' d O') (fun t d O=>eI P G k (.loop b) t n d ro O):=fun d ro k hk=>by
   show wC (eI P G k b t n d ro O) (fun t d O=>eI P G k (.loop b) t n d ro O)=_;rw[h1 d ro k hk]
  cases e with
  | normal=>
   obtain⟨i,hi,u⟩:=z;obtain⟨B,e2,C,E,L,M⟩:=ih i hi t' O' u;refine⟨max K B+1,e2,C,E,fun d ro k hk=>?_,M⟩;obtain⟨q,rfl⟩:∃q,k=q+1:=⟨k-1,by omega⟩;rw[st d ro q oM];exact L d ro q oM
  | _=>
   refine⟨K+1,_,t',O',fun d ro k hk=>?_,z⟩;obtain⟨q,rfl⟩:∃q,k=q+1:=⟨k-1,by omega⟩;rw[st d ro q oM];rfl
theorem ai {id:Nat} (hd:mu ops.toList=false) (h:bZ P G ops n ops.toList t O Q):Ev P G (.region id ops false) n t O Q:=by
 obtain⟨K,e,t',O',h1,u⟩:=h;refine⟨K+1,e,t',O',fun d ro k hk=>?_,u⟩;obtain⟨j,rfl⟩:∃j,k=j+1:=⟨k-1,by omega⟩;show(bif mu ops.toList then .err 96 else D8 d (oY P G (eI P G j) ops n d ops.toList t O))=_;rw[hd,h1 d j oM];cases e<;>rfl
theorem xR {id:Nat} (hf:uO P ops=true) (h:cR P G ops n (lj P ops) t O Q):Ev P G (.region id ops true) n t O Q:=by
 obtain⟨K,e,t',O',h1,u⟩:=h;refine⟨K+1,e,t',O',fun d ro k hk=>?_,u⟩;obtain⟨j,rfl⟩:∃j,k=j+1:=⟨k-1,by omega⟩;show vM P G (eI P G j) ops n d t O=_;unfold vM
 simp_all
theorem af (h:Q .normal t O):bZ P G ops n [] t O Q:=⟨0,.normal,t,O,fun _ _ _=>Z,h⟩
theorem J {o:Oper} {l:List Oper} {v:V} {t':PT V} {O':aB} (hw:bR ops t o=some true) (hv:eo P G (bI G t) O o.op= .val v O') (hp:dE t n o.dst v=some t') (h:bZ P G ops n l t' O' Q):bZ P G ops n (o::l) t O Q:=by
 obtain⟨K,e,u,z,h1,A⟩:=h;refine⟨K,e,u,z,fun d k hk=>?_,A⟩;show iy P G (eI P G k) true ops n o t O (oY P G (eI P G k) ops n d l)=_
 grind [iy,lf]
theorem iq {o:Oper} {l:List Oper} {t':PT V} {O':aB} (hw:bR ops t o=some true) (hv:eo P G (bI G t) O o.op= .skip O') (hp:dE t n o.dst unit=some t') (h:bZ P G ops n l t' O' Q):bZ P G ops n (o::l) t O Q:=by
 obtain⟨K,e,u,z,h1,A⟩:=h;refine⟨K,e,u,z,fun d k hk=>?_,A⟩;show iy P G (eI P G k) true ops n o t O (oY P G (eI P G k) ops n d l)=_
 grind [iy,lf]
theorem ae {o:Oper} {l:List Oper} {t':PT V} (hw:bR ops t o=some false) (hp:dE t n o.dst unit=some t') (h:bZ P G ops n l t' O Q):bZ P G ops n (o::l) t O Q:=by
 obtain⟨K,e,u,z,h1,A⟩:=h;refine⟨K,e,u,z,fun d k hk=>?_,A⟩;show iy P G (eI P G k) true ops n o t O (oY P G (eI P G k) ops n d l)=_;unfold iy
 simp_all
theorem Gf {o:Oper} {l:List Oper} {f:Nat} {args:List V} (hw:bR ops t o=some true) (hv:eo P G (bI G t) O o.op= .enter f args σ₁)
  (h:bh P G f args σ₁ fun v O'=>∃t',dE t n o.dst v=some t'/\bZ P G ops n l t' O' Q):bZ P G ops n (o::l) t O Q:=by
 obtain⟨K,v,O',h1,t',hp,u,e,z,A,h3,B⟩:=h;refine⟨max K u,e,z,A,fun d k hk=>?_,B⟩;show iy P G (eI P G k) true ops n o t O (oY P G (eI P G k) ops n d l)=_
 grind [iy,lf]
theorem aV (h:Q .normal t O):cR P G ops n [] t O Q:=⟨0,.normal,t,O,fun _ _ _=>Z,h⟩
theorem ah {i:Nat} {o:Oper} {l:List (Nat×List Nat)} {v:V} {t':PT V} {O':aB} (hi:ops[i]? =some o) (hw:bR ops t o=some true) (hv:eo P G (bI G t) O o.op= .val v O') (hp:dE t n o.dst v=some t') (h:cR P G ops n l t' O' Q):cR P G ops n ((i,[])::l) t O Q:=by
 obtain⟨K,e,u,z,h1,A⟩:=h;refine⟨K,e,u,z,fun d k hk=>?_,A⟩
 show(match ops[i]? with
  | some o=>iy P G (eI P G k) false ops n o t O (fun t' O'=>bif dy P G ops t' O' [] then ki P G (eI P G k) ops n d l t' O' else .err 86)
  | none=>.err 87)=_
 rw[hi];unfold iy;dsimp only;rw[hw];dsimp only;rw[hv];dsimp only[lf];rw[hp];exact h1 d k hk
theorem au {i:Nat} {o:Oper} {l:List (Nat×List Nat)} {t':PT V} (hi:ops[i]? =some o) (hw:bR ops t o=some false) (hp:dE t n o.dst unit=some t') (h:cR P G ops n l t' O Q):cR P G ops n ((i,[])::l) t O Q:=by
 obtain⟨K,e,u,z,h1,A⟩:=h;refine⟨K,e,u,z,fun d k hk=>?_,A⟩
 show(match ops[i]? with
  | some o=>iy P G (eI P G k) false ops n o t O (fun t' O'=>bif dy P G ops t' O' [] then ki P G (eI P G k) ops n d l t' O' else .err 86)
  | none=>.err 87)=_
 rw[hi];unfold iy;dsimp only;rw[hw];dsimp only;rw[hp];exact h1 d k hk
theorem D1 {i:Nat} {o:Oper} {l:List (Nat×List Nat)} {f:Nat} {args:List V} (hi:ops[i]? =some o) (hw:bR ops t o=some true) (hv:eo P G (bI G t) O o.op= .enter f args σ₁)
  (h:bh P G f args σ₁ fun v O'=>∃t',dE t n o.dst v=some t'/\dy P G ops t' O' rc=true/\cR P G ops n l t' O' Q):cR P G ops n ((i,rc)::l) t O Q:=by
 obtain⟨K,v,O',h1,t',hp,hs,u,e,z,A,h3,B⟩:=h;refine⟨max K u,e,z,A,fun d k hk=>?_,B⟩
 show(match ops[i]? with
  | some o=>iy P G (eI P G k) false ops n o t O (fun t' O'=>bif dy P G ops t' O' rc then ki P G (eI P G k) ops n d l t' O' else .err 86)
  | none=>.err 87)=_
 grind [iy,lf]
end
theorem OV {f:Nat} {fn:Func} {c:Code} {args:List V} {O:aB} {R:V->aB->Prop} {t:PT V} (u:G.Gv f args O=none) (z:G.NN f args=none) (d:G.stop f args O=none) (A:G.fk f=false)
  (hf:P.funcs[f]? =some fn) (hb:fn.body=some c) (B:rS fn.ntmps args=some t)
  (h:Ev P G c fn.ntmps t O fun e t' O'=>(e= .normal∨e= .ret)/\∃v,e7 P fn t' O'=some v/\R v O'):bh P G f args O R:=by
 obtain⟨K,e,t',O',h1,he,v,h2,C⟩:=h;refine⟨K,v,O',fun k hk=>?_,C⟩;unfold kP;rw[u];dsimp only;rw[z];dsimp only;rw[d];dsimp only;rw[A];simp only[cond_false];unfold nU;rw[hf];dsimp only;rw[hb,B];dsimp only;rw[h1 [] none k hk];rcases he with rfl | rfl<;>
 ·dsimp only;unfold zP;rw[show uU P G (eI P G k) [] .ret O'=some (.ret,O') from Z]
  simp_all
theorem Lr {f:Nat} {args:List V} {O:aB} {R:V->aB->Prop} {v:V} (aa:G.Gv f args O=none) (ab:G.NN f args=some v) (h1:fo args=true) (h2:r6 v=true) (h3:kz G.gl O G.laid=true) (h:R v O):bh P G f args O R:=by
 refine⟨0,v,O,fun k _=>?_,h⟩
 grind [kP]
end
variable {cap fuel:Nat} {Y:Ren} {O:aB}
def qM (P:Program):List Field->Nat->Option Nat
  | [],off=>some off
  | f::r,off=>if f.offset=off then qM P r (off+P.cellsOf f.type) else none
def fF {H_:Type} (P:Program) (O:aB):Nat->TypeId->DataW H_->List V->Prop
  | 0,_,_,_=>False
  | fuel+1,t,d,vs=>
    match P.underlying t,d with
    | some .bool,.lit (.bool b)=>vs= [.bool b]
    | some (.int k),.lit (.int k' n)=>k'=k/\(Lit.int k n).wf=true/\vs= [.int k n]
    | some .string,.lit (.string s)=>s.length<=maxLen/\vs= [.str<|s.map UInt8.toNat]
    | some (.slice _),.nil=>vs= [.av]
    | some (.slice e),.slice elems spare=>1<=P.cellsOf e->∃(b:Nat) (c:rK) (cells:List V) (e':Nat),vs= [.slice b 0 elems.length c]/\elems.length<=maxLen/\O.m.get b=some (.row cells e' true)/\
        (c= .known (elems.length+spare.length)∨c= .upto (P.cellsOf e))/\cells.length=elems.length*P.cellsOf e/\
        ∀(i:Nat) (x:DataW H_),elems[i]? =some x->fF P O fuel e x ((cells.drop (i*P.cellsOf e)).take<|P.cellsOf e)
    | some (.struct fs),.agg parts=>qM P fs.toList 0=some (P.cellsOf t)->parts.length=fs.size/\vs.length=P.cellsOf t/\
        ∀(i:Nat) (f:Field) (x:DataW H_),fs[i]? =some f->parts[i]? =some x->fF P O fuel f.type x ((vs.drop f.offset).take<|P.cellsOf f.type)
    | some (.array n e),.agg parts=>P.cellsOf t=n*P.cellsOf e->parts.length=n/\vs.length=P.cellsOf t/\
        ∀(i:Nat) (x:DataW H_),parts[i]? =some x->fF P O fuel e x ((vs.drop (i*P.cellsOf e)).take<|P.cellsOf e)
    | _,_=>True
theorem fF.mono {H_:Type} {P:Program} {O O':aB} (he:∀(b:Pos) (o:cN),O.m.get b=some o->O'.m.get b=some o):∀(fuel:Nat) (t:TypeId) (d:DataW H_) (vs:List V),fF P O fuel t d vs->fF P O' fuel t d vs
  | 0,_,_,_,h=>h
  | fuel+1,t,d,vs,h=>by
    unfold fF at h⊢;split at h
    · exact h
    · exact h
    · exact h
    · exact h
    · intro h1
      obtain⟨b,c,cells,e',u,z,A,B,C,E⟩:=h h1;exact⟨b,c,cells,e',u,z,he _ _ A,B,C,fun i x hx=>fF.mono he fuel _ _ _ (E i x hx)⟩
    · intro h1
      obtain⟨u,z,A⟩:=h h1;exact⟨u,z,fun i f x hf hx=>fF.mono he fuel _ _ _ (A i f x hf hx)⟩
    · intro h1
      obtain⟨u,z,A⟩:=h h1;exact⟨u,z,fun i x hx=>fF.mono he fuel _ _ _ (A i x hx)⟩
    · trivial
theorem dA.flatten {Y:Ren}:∀{vss:List (List V)} {css:List (List Value)},vss.length=css.length->(∀(i:Nat) (vs:List V) (cs:List Value),vss[i]? =some vs->css[i]? =some cs->dA Y vs cs)->dA Y vss.flatten css.flatten
  | [],[],_,_=>dA.nil
  | [],_::_,h,_=>by simp at h
  | _::_,[],h,_=>by simp at h
  | vs::vss,cs::css,h,hh=>by
    rw[List.flatten_cons,List.flatten_cons];exact(hh 0 vs cs Z Z).append (dA.flatten (by simpa using h) fun i a b d hb=>hh (i+1) a b (by simpa using d) (by simpa using hb))
theorem nD {α:Type} {m:Nat}:∀{l:List (List α)} {i:Nat} {x:List α},(∀y∈l,y.length=m)->l[i]? =some x->(l.flatten.drop (i*m)).take m=x
  | [],i,x,_,h=>by simp at h
  | y::l,0,x,hm,h=>by
    simp at h;subst h;have hy:=hm y (by simp);simp[<-hy]
  | y::l,i+1,x,hm,h=>by
    have hy:=hm y (by simp);simp only[List.getElem?_cons_succ] at h;rw[List.flatten_cons,show(i+1)*m=y.length+i*m by rw[hy,Nat.succ_mul,Nat.add_comm],List.drop_append,List.drop_eq_nil_of_le oM,List.nil_append,Nat.add_sub_cancel_left];exact nD (fun z hz=>hm z (by simp[hz])) h
theorem qe {α:Type} {m:Nat}:∀{l:List (List α)},(∀y∈l,y.length=m)->l.flatten.length=l.length*m
  | [],_=>by simp
  | y::l,hm=>by
    rw[List.flatten_cons,lA_,hm y (by simp),qe fun z hz=>hm z (by simp[hz]),zc_,Nat.succ_mul,Nat.add_comm]
theorem nO {α:Type} {P:Program}:∀{fs:List Field} {off fin:Nat} {cs:List α},qM P fs off=some fin->fin<=cs.length->(fs.map fun f=>(cs.drop f.offset).take (P.cellsOf f.type)).flatten=(cs.drop off).take (fin-off)/\off<=fin
  | [],off,fin,cs,h,_=>by simp only[qM,oJ_] at h;subst h;simp
  | f::fs,off,fin,cs,h,hl=>by
    simp only[qM] at h;split at h
    · rename_i d
      obtain⟨h1,h2⟩:=nO h hl;refine⟨?_,by omega⟩;rw[List.map_cons,List.flatten_cons,h1,d];rw[show fin-off=P.cellsOf f.type+(fin-(off+P.cellsOf f.type)) by omega,List.take_add,zl_]
    · cases h
theorem wm {α:Type} {P:Program}:∀{fs:List Field} {vss:List (List α)} {off fin:Nat},qM P fs off=some fin->(∀(i:Nat) (f:Field) (vs:List α),fs[i]? =some f->vss[i]? =some vs->vs.length=P.cellsOf f.type)->vss.length=fs.length->
    ∀{i:Nat} {f:Field} {vs:List α},fs[i]? =some f->vss[i]? =some vs->off<=f.offset/\(vss.flatten.drop (f.offset-off)).take (P.cellsOf f.type)=vs
  | [],vss,off,fin,h,hl,hn,i,f,vs,hf,hv=>by simp at hf
  | g::fs,[],off,fin,h,hl,hn,i,f,vs,hf,hv=>by simp at hv
  | g::fs,w::vss,off,fin,h,hl,hn,i,f,vs,hf,hv=>by
    simp only[qM] at h;split at h
    · rename_i ho
      have hw:=hl 0 g w Z Z;cases i with
      | zero=>
        simp_all
      | succ i=>
        simp only[List.getElem?_cons_succ] at hf hv;obtain⟨h1,h2⟩:=wm h (fun i f vs a b=>hl (i+1) f vs (by simpa using a) (by simpa using b)) (by simpa using hn) hf hv
        grind [List.drop_append,List.drop_eq_nil_of_le]
    · cases h
def ll (O:aB):Prop:=∀b o,O.m.get b=some o->o.ro=true
structure Lay (Y:Ren) (O:aB) (Y':Ren) (O':aB):Prop where
  le:Y.le Y'
  get:∀(b:Pos) (o:cN),O.m.get b=some o->O'.m.get b=some o
theorem Lay.refl (Y:Ren) (O:aB):Lay Y O Y O:=⟨Ren.le_refl Y,fun _ _ h=>h⟩
theorem Lay.trans {Y ρ₁ ρ₂:Ren} {O σ₁ σ₂:aB} (h:Lay Y O ρ₁ σ₁) (h':Lay ρ₁ σ₁ ρ₂ σ₂):Lay Y O ρ₂ σ₂:=⟨Ren.le_trans h.le h'.le,fun b o hb=>h'.get b o (h.get b o hb)⟩
theorem Inv.QO {w:World} (hi:Inv Y O w) (G:ll O) {l:Loc} {o:cN} {x:Obj} (hx:w.heap[l.dz]? =some x) (I:gF Y l o x) (aa:o.ro=true):
    Inv (Y.with O.next l) (O.alloc o) w/\ll (O.alloc o)/\Lay Y O (Y.with O.next l) (O.alloc o):=by
  have hle:=hi.w9 l;have hlt:l.dz<w.heap.size:=(aS_.1 hx).1;have z:∀b l',b≠O.next->(Y.with O.next l) b=some l'->Y b=some l':=fun b l' hb h=>by rwa[Ren.eC Y l hb] at h
  have u:∀b,b≠O.next->(O.alloc o).m.get b=O.m.get b:=fun b hb=>PT.dL _ _ _ _ hb
  have A:(O.alloc o).m.get O.next=some o:=PT.dY _ _ _
  have d:ll (O.alloc o):=fun b q hb=>by
    by_cases e:b=O.next
    · simp_all
    · rw[u b e] at hb;exact G b q hb
  refine⟨⟨⟨fun b hb=>?_,fun b l' hb=>?_,fun b o' l' hb B=>?_,fun b b' o₁ o₂ l₁ l₂ h1 C _ _ _ _=>⟨d b o₁ h1,d b' o₂ C⟩⟩,hi.oI.size,hi.oI.same,fun r _ ⟨b,o,l,h1,C,_,_⟩=>by rw[d b o h1] at C;cases C⟩,d,hle,fun b q hb=>?_⟩
  · have ab:O.next.num+1<=b.num:=by simpa [aB.alloc,Pos.iT] using hb
    have hne:b≠O.next:=fun e=>by subst e;omega
    rw[Ren.eC Y l hne,u b hne];exact hi.fresh b oM
  · by_cases hne:b=O.next
    · subst hne;rw[Ren.cZ] at hb;cases hb;exact hlt
    · exact hi.dz b l'<|z b l' hne hb
  · by_cases hne:b=O.next
    · subst hne
      rw[Ren.cZ] at B;rw[A] at hb;cases hb;cases B;exact⟨x,hx,I.mono hle⟩
    · rw[u b hne] at hb
      obtain⟨y,hy,E⟩:=hi.obj b o' l' hb (z b l' hne B);exact⟨y,hy,E.mono hle⟩
  · have hne:b≠O.next:=fun e=>by subst e;rw[(hi.fresh _<|nR_ _).2] at hb;cases hb
    simp_all
section
variable {H_:Type} {enc:TypeId×Value->H_} {P:Program} {w:World}
def KE (enc:TypeId×Value->H_) (P:Program) (w:World) (fuel:Nat) (t:TypeId) (cs:List Value) (d:DataW H_):Prop:=
  ∀(Y:Ren) (O:aB),Inv Y O w->ll O->∃(Y':Ren) (O':aB) (vs:List V),Inv Y' O' w/\ll O'/\Lay Y O Y' O'/\fF P O' fuel t d vs/\dA Y' vs cs
theorem SO {Y:Ren}:∀(cs:List Value),dA Y (cs.map fun _=>V.any) cs
  | []=>dA.nil
  | _::cs=>dA.cons (by simp only[VR]) (SO cs)
theorem rh {fuel:Nat} (ih:∀t cs d p,DataW.trod enc P w 0 (fun _=>true) true fuel t cs=some (d,p)->KE enc P w fuel t cs d):
    ∀(l:List (TypeId×List Value)) (xs:List (DataW H_×List MemPlace)),(l.mapM fun q=>DataW.trod enc P w 0 (fun _=>true) true fuel q.1 q.2)=some xs->∀(Y:Ren) (O:aB),Inv Y O w->ll O->
      ∃(Y':Ren) (O':aB) (vss:List (List V)),Inv Y' O' w/\ll O'/\Lay Y O Y' O'/\vss.length=l.length/\xs.length=l.length/\∀(i:Nat) (q:TypeId×List Value) (x:DataW H_×List MemPlace) (vs:List V),l[i]? =some q->xs[i]? =some x->vss[i]? =some vs->fF P O' fuel q.1 x.1 vs/\dA Y' vs q.2
  | [],xs,h,Y,O,hi,u=>by
    simp at h;subst h;exact⟨Y,O,[],hi,u,Lay.refl _ _,Z,Z,fun i q x vs hq=>by simp at hq⟩
  | q::l,xs,h,Y,O,hi,u=>by
    simp only[List.mapM_cons,Option.bind_eq_bind,Option.bind_eq_some_iff,Option.pure_def,oJ_] at h;obtain⟨⟨d,p⟩,h1,r,z,rfl⟩:=h;obtain⟨ρ₁,σ₁,vs,A,B,l1,C,E⟩:=ih _ _ _ _ h1 Y O hi u;obtain⟨ρ₂,σ₂,vss,G,I,l2,K,L,hh⟩:=rh ih l r z ρ₁ σ₁ A B;refine⟨ρ₂,σ₂,vs::vss,G,I,l1.trans l2,by simp[K],by simp[L],fun i q' x vs' hq hx hv=>?_⟩;cases i with
    | zero=>
      simp at hq hx hv;subst hq;subst hx;subst hv;exact⟨fF.mono l2.get _ _ _ _ C,dA.mono l2.le _ _ E⟩
    | succ i=>grind
theorem mw {α β:Type} {f:α->Option β}:∀{l:List α} {ys:List β},l.mapM f=some ys->ys.length=l.length/\∀(i:Nat) (y:β),ys[i]? =some y->∃x,l[i]? =some x/\f x=some y
  | [],ys,h=>by simp_all
  | x::l,ys,h=>by
    simp only[List.mapM_cons,Option.bind_eq_bind,Option.bind_eq_some_iff,Option.pure_def,oJ_] at h;obtain⟨y,h1,r,d,rfl⟩:=h;obtain⟨k1,k2⟩:=mw d
    grind
theorem uW {α β γ:Type} {f:α->Option β} {g:β->Option γ}:∀{l:List α} {xs:List γ},(l.mapM fun a=>(f a).bind g)=some xs->∃ys,l.mapM f=some ys/\ys.mapM g=some xs
  | [],xs,h=>by simp_all
  | a::l,xs,h=>by
    simp only[List.mapM_cons,Option.bind_eq_bind,Option.bind_eq_some_iff,Option.pure_def,oJ_] at h;obtain⟨x,⟨b,h1,h2⟩,r,d,rfl⟩:=h;obtain⟨ys,k1,k2⟩:=uW d
    simp_all
theorem mapM_map {α β γ:Type} {f:α->β} {g:β->Option γ}:∀(l:List α),(l.map f).mapM g=l.mapM fun a=>g (f a)
  | []=>rfl
  | a::l=>by simp only[List.map_cons,List.mapM_cons,mapM_map l]
theorem chunks_flatten {α:Type} {m:Nat} (L:List α):∀(n:Nat),((List.range n).map fun k=>(L.drop (k*m)).take m).flatten=L.take (n*m)
  | 0=>by simp
  | n+1=>by
    rw[List.range_succ,List.map_append,List.flatten_append,chunks_flatten L n];simp only[List.map_cons,List.map_nil,List.flatten_cons,List.flatten_nil,zk_];rw[Nat.succ_mul,List.take_add]
theorem xC {a:Addr} {n:Nat} {cs:List Value} (h:w.cells? 0 a n=some cs) (hn:1<=n):∃(c:Array Value) (e:TypeId) (fr:Nat×Nat),w.heap[a.block]? =some (Obj.cells c e fr)/\a.spot=none/\a.off+n<=c.size/\cs=(c.toList.drop a.off).take n:=by
  unfold World.cells? at h;rw[if_pos<|Nat.zero_le _] at h;obtain⟨A,B⟩:=mw h;have A:cs.length=n:=by simpa using A
  have h0:∃(c:Array Value) (e:TypeId) (fr:Nat×Nat),w.heap[a.block]? =some (Obj.cells c e fr)/\a.spot=none:=by
    have hlt:0<cs.length:=by omega
    obtain⟨x,hx,u⟩:=B 0 cs[0] (gC hlt)
    have:x=0:=by
      grind
    subst this;have C:a.add 0=a:=by simp[Addr.add]
    rw[C] at u;unfold World.cell? at u;split at u
    · simp_all
    · cases u
  obtain⟨c,e,fr,hh,E⟩:=h0
  have d:∀i y,cs[i]? =some y->c[a.off+i]? =some y:=fun i y hy=>by
    grind [Addr.add_eq,cell?_of_heap]
  have z:a.off+n<=c.size:=by
    have hlt:n-1<cs.length:=by omega
    have:=d (n-1) cs[n-1] (gC hlt)
    grind
  refine⟨c,e,fr,hh,E,z,?_⟩;apply zf_
  grind
theorem Fc {P:Program}:∀{fs:List Field} {off fin:Nat},qM P fs off=some fin->∀f∈fs,f.offset+P.cellsOf f.type<=fin
  | [],off,fin,h,f,hf=>by cases hf
  | g::fs,off,fin,h,f,hf=>by
    simp only[qM] at h;split at h
    · rename_i ho
      rcases mQ_.1 hf with rfl | hf
      · have:=(nO (P:=P) (cs:=List.replicate fin ()) h (by simp)).2
        omega
      · exact Fc h f hf
    · cases h
theorem Mg (hw:∃(r:Nat) (c:Array Value) (e:TypeId) (fr:Nat×Nat),w.heap[r]? =some (Obj.cells c e fr)) (ih:∀t cs d p,DataW.trod enc P w 0 (fun _=>true) true fuel t cs=some (d,p)->KE enc P w fuel t cs d) {t e:TypeId} {a:Addr} {len:Nat} {d:DataW H_} {p:List MemPlace} (hu:P.underlying t=some (.slice e))
    (h:(if 0<=a.block/\len<=cap/\cap<=maxLen then
        ((List.range len).mapM fun i=>(w.cells? 0 (a.add (i*P.cellsOf e))<|P.cellsOf e).bind (DataW.trod enc P w 0 (fun _=>true) true fuel e)).bind fun elems=>
          (if(fun _=>true) a.block=true then(List.range (cap-len)).mapM fun j=>(w.cells? 0 (a.add ((len+j)*P.cellsOf e))<|P.cellsOf e).bind (DataW.trod enc P w 0 (fun _=>true) true fuel e) else some []).map fun rest=>
            (DataW.slice (elems.map (·.1))<|rest.map (·.1),MemPlace.row a ((elems.length+rest.length)*P.cellsOf e)++(elems++rest).flatMap (·.2))
      else none)=some (d,p)) (hi:Inv Y O w) (hr:ll O):
    ∃(Y':Ren) (O':aB) (vs:List V),Inv Y' O' w/\ll O'/\Lay Y O Y' O'/\fF P O' (fuel+1) t d vs/\dA Y' vs [Value.slice (some a) len cap]:=by
  split at h
  · rename_i hc
    obtain⟨_,a1,a2⟩:=hc;obtain⟨elems,hE,h⟩:=Option.bind_eq_some_iff.1 h;obtain⟨rest,hR,h⟩:=oM_.1 h;rw[if_pos Z] at hR;have hd:d= .slice (elems.map (·.1)) (rest.map (·.1)):=by have:=congrArg Prod.fst h;simpa using this.symm
    subst hd;have u:elems.length=len:=by have:=(mw hE).1;simpa using this
    have aa:rest.length=cap-len:=by have:=(mw hR).1;simpa using this
    by_cases K:1<=P.cellsOf e
    · obtain⟨css,ac,hex⟩:=uW hE
      obtain⟨kcs,I⟩:=mw ac;have kcs:css.length=len:=by simpa using kcs
      have Q:∀k,(a.add k).block=a.block/\(a.add k).off=a.off+k:=fun k=>by
        unfold Addr.add;split
        · rename_i h0;subst h0;exact⟨Z,Z⟩
        · exact⟨Z,Z⟩
      have B:a.add 0=a:=by simp[Addr.add]
      by_cases h0:len=0/\cap=0
      · obtain⟨rfl,rfl⟩:=h0
        obtain⟨r,c,e',fr,hh⟩:=hw;have C:gF Y ⟨r,0,c.size⟩ (.row [] e' true) (.cells c e' fr):=⟨c,fr,Z,by simp,by simp,fun i v hv=>by simp at hv,fun h=>by cases h⟩;obtain⟨i1,r1,l1⟩:=hi.QO hr hh C Z;refine⟨_,_,[.slice O.next 0 0 (.upto<|P.cellsOf e)],i1,r1,l1,?_,dA.cons ?_ dA.nil⟩
        · unfold fF
          rw[hu];dsimp only;intro _;have am:elems= []:=eN_ u;subst am;exact⟨O.next,_,[],e',Z,by simp,PT.dY _ _ _,.inr Z,by simp,fun i x hx=>by simp at hx⟩
        · simp only[VR]
          refine⟨_,Ren.cZ _ _ _,.inr ?_⟩;simp
      · have hblk:∃(c:Array Value) (e':TypeId) (fr:Nat×Nat),w.heap[a.block]? =some (Obj.cells c e' fr)/\a.spot=none/\a.off<=c.size:=by
          have go:∀cs:List Value,w.cells? 0 a (P.cellsOf e)=some cs->∃(c:Array Value) (e':TypeId) (fr:Nat×Nat),w.heap[a.block]? =some (Obj.cells c e' fr)/\a.spot=none/\a.off<=c.size:=fun cs hk=>by
            obtain⟨c,e',fr,h1,h2,h3,_⟩:=xC hk K;exact⟨c,e',fr,h1,h2,by omega⟩
          by_cases hl:len=0
          · subst hl
            obtain⟨dss,ap,_⟩:=uW hR;obtain⟨X,k2⟩:=mw ap;have X:dss.length=cap-0:=by simpa using X
            have hlt:0<dss.length:=by omega
            obtain⟨x,E,hx⟩:=k2 0 dss[0] (gC hlt);have:x=0:=by rw[zr_ oM] at E;exact(zs_ E).symm
            subst this;rw[nA_,Nat.zero_mul,B] at hx;exact go _ hx
          · have hlt:0<css.length:=by omega
            obtain⟨x,E,hx⟩:=I 0 css[0] (gC hlt);have:x=0:=by rw[zr_ oM] at E;exact(zs_ E).symm
            subst this;rw[Nat.zero_mul,B] at hx;exact go _ hx
        obtain⟨c,e',fr,hh,G,ak⟩:=hblk
        have L:∀(i:Nat) (y:List Value),css[i]? =some y->a.off+(i+1)*P.cellsOf e<=c.size/\y=((c.toList.drop a.off).drop (i*P.cellsOf e)).take (P.cellsOf e):=fun i y hy=>by
          obtain⟨x,hx,ar⟩:=I i y hy;have A:i<len:=by rw[<-kcs];exact(gA.1 hy).1
          have:x=i:=by rw[zr_ A] at hx;exact(zs_ hx).symm
          subst this;obtain⟨c2,e2,a3,h1,h2,h3,h4⟩:=xC ar K;obtain⟨q1,q3⟩:=Q (x*P.cellsOf e);rw[q1,hh] at h1;cases h1;rw[q3] at h3 h4;exact⟨by rw[Nat.succ_mul];omega,by rw[h4,zl_]⟩
        have aE:a.off+len*P.cellsOf e<=c.size:=by
          by_cases hl:len=0
          · subst hl;omega
          · have hlt:len-1<css.length:=by omega
            have:=(L (len-1) css[len-1]<|gC hlt).1;rwa[show len-1+1=len by omega] at this
        have R:∀(i:Nat) (y:List Value),css[i]? =some y->y.length=P.cellsOf e:=fun i y hy=>by
          obtain⟨X,k2⟩:=L i y hy;rw[k2,lT_,lD_,lD_,Array.length_toList];rw[Nat.succ_mul] at X;omega
        have M:css=(List.range len).map fun k=>((c.toList.drop a.off).drop (k*P.cellsOf e)).take (P.cellsOf e):=by
          apply zf_;intro i;rw[gM_]
          by_cases A:i<len
          · rw[zr_ A]
            have hlt:i<css.length:=by omega
            rw[gC hlt];exact congrArg some (L i css[i]<|gC hlt).2
          · rw[gN_ oM,gN_ (by simp;omega)];rfl
        obtain⟨ρ₁,σ₁,vss,i1,r1,l1,n1,n2,N⟩:=rh ih (css.map fun cs=>(e,cs)) elems (by rw[mapM_map];exact hex) Y O hi hr;have n1:vss.length=css.length:=by simpa using n1
        have hV:dA ρ₁ vss.flatten css.flatten:=dA.flatten n1 fun i vs cs hv S=>by
          have hlt:i<elems.length:=by rw[u,<-kcs];exact(gA.1 S).1
          exact(N i (e,cs) elems[i] vs (by rw[gM_,S];rfl) (gC hlt) hv).2
        have T:∀vs∈vss,vs.length=P.cellsOf e:=fun vs hv=>by
          obtain⟨i,A,rfl⟩:=List.getElem_of_mem hv;have hlt:i<css.length:=by omega
          have z:i<elems.length:=by omega
          have:=(N i (e,css[i]) elems[i] vss[i] (by rw[gM_,gC hlt];rfl) (gC z)<|gC A).2.length;rw[<-this];exact R i _<|gC hlt
        have W:vss.flatten.length=len*P.cellsOf e:=by rw[qe T,n1,kcs]
        rw[M,chunks_flatten] at hV
        have C:gF ρ₁ ⟨a.block,a.off,c.size-a.off⟩ (.row vss.flatten e' true) (.cells c e' fr):=by
          refine⟨c,fr,Z,by show c.size=a.off+(c.size-a.off);omega,by rw[W];show _<=c.size-a.off;omega,fun i v hv=>?_,fun h=>by cases h⟩;obtain⟨y,hy,a0⟩:=hV.get hv;rw[List.getElem?_take] at hy;split at hy
          · rw[List.getElem?_drop,aT_] at hy
            exact⟨y,hy,a0⟩
          · cases hy
        obtain⟨i2,r2,l2⟩:=i1.QO r1 hh C Z;refine⟨_,_,[.slice σ₁.next 0 len (.known cap)],i2,r2,l1.trans l2,?_,dA.cons ?_ dA.nil⟩
        · unfold fF
          rw[hu];dsimp only;intro _;refine⟨σ₁.next,_,vss.flatten,e',by rw[lM_,u],by rw[lM_,u];omega,PT.dY _ _ _,.inl (by rw[lM_,lM_,u,aa];congr 1;omega),by rw[W,lM_,u],fun i x hx=>?_⟩;rw[gM_] at hx;cases hy:elems[i]? with
          | none=>rw[hy] at hx;cases hx
          | some y=>
            rw[hy] at hx;cases hx;have A:i<len:=by rw[<-u];exact(gA.1 hy).1
            have hlt:i<css.length:=by omega
            have z:i<vss.length:=by omega
            rw[nD T<|gC z];exact fF.mono l2.get _ _ _ _ (N i (e,css[i]) y vss[i] (by rw[gM_,gC hlt];rfl) hy<|gC z).1
        · simp only[VR]
          refine⟨_,Ren.cZ _ _ _,?_⟩;obtain⟨ab,ao,asg⟩:=a;dsimp only at G⊢;subst G;rfl
    · refine⟨Y,O,[.any],hi,hr,Lay.refl _ _,?_,dA.cons (by simp only[VR]) dA.nil⟩
      unfold fF;rw[hu];exact fun h'=>absurd h' K
  · cases h
theorem lay (hw:∃(r:Nat) (c:Array Value) (e:TypeId) (fr:Nat×Nat),w.heap[r]? =some (Obj.cells c e fr)):∀(fuel:Nat) (t:TypeId) (cs:List Value) (d:DataW H_) (p:List MemPlace),DataW.trod enc P w 0 (fun _=>true) true fuel t cs=some (d,p)->KE enc P w fuel t cs d
  | 0,t,cs,d,p,h=>by simp[DataW.trod] at h
  | fuel+1,t,cs,d,p,h=>by
    intro Y O hi M;have ih:=lay hw fuel
    have other:(∀vs:List V,fF P O (fuel+1) t d vs)->∃(Y':Ren) (O':aB) (vs:List V),Inv Y' O' w/\ll O'/\Lay Y O Y' O'/\fF P O' (fuel+1) t d vs/\dA Y' vs cs:=fun hd=>
      ⟨Y,O,_,hi,M,Lay.refl _ _,hd _,SO cs⟩
    have one:∀{v:V} {x:Value},cs= [x]->(∀Y:Ren,VR Y v x)->fF P O (fuel+1) t d [v]->∃(Y':Ren) (O':aB) (vs:List V),Inv Y' O' w/\ll O'/\Lay Y O Y' O'/\fF P O' (fuel+1) t d vs/\dA Y' vs cs:=fun {v x} C hv hd=>by
      subst C;exact⟨Y,O,[v],hi,M,Lay.refl _ _,hd,dA.cons (hv Y) dA.nil⟩
    cases hu:P.underlying t with
    | none=>exact other fun vs=>by unfold fF;rw[hu];trivial
    | some u=>
      unfold DataW.trod at h;rw[hu] at h;cases u with
      | bool=>
        split at h<;>first | (rename_i he;cases he;done) | skip
        all_goals first
          | (rename_i b he
             cases h;exact one (v:=.bool b) Z (fun Y=>by simp only[VR]) (by unfold fF;rw[hu]))
          | cases h
      | int k=>
        split at h<;>first | (rename_i he;cases he;done) | skip
        all_goals first
          | (rename_i R N n he
             cases he;split at h
             · rename_i hk
               obtain⟨S,T⟩:=hk;subst S;cases h;exact one (v:=.int N n) Z (fun Y=>by simp only[VR]) (by unfold fF;rw[hu];exact⟨Z,T,Z⟩)
             · cases h)
          | cases h
      | string=>
        split at h<;>first | (rename_i he;cases he;done) | skip
        all_goals first
          | (rename_i s he
             split at h
             · rename_i hk
               cases h;exact one (v:=.str<|s.data.toList.map UInt8.toNat) Z (fun Y=>by simp only[VR];exact⟨s,Z,Z⟩) (by unfold fF;rw[hu];exact⟨by simpa using hk,Z⟩)
             · cases h)
          | cases h
      | struct fs=>
        dsimp only at h;split at h
        · rename_i hlen
          obtain⟨xs,I,hx⟩:=oM_.1 h;have hd:d= .agg (xs.map (·.1)):=by have:=congrArg Prod.fst hx;simpa using this.symm
          subst hd
          by_cases E:qM P fs.toList 0=some (P.cellsOf t)
          · obtain⟨ρ₁,σ₁,vss,W,X,l1,B,G,hh⟩:=rh ih (fs.toList.map fun f=>(f.type,(cs.drop f.offset).take<|P.cellsOf f.type)) xs (by rw[mapM_map];exact I) Y O hi M
            have hflat:=(nO (cs:=cs) E oM).1;have hle:=Fc E;have B:vss.length=fs.toList.length:=by simpa using B
            have G:xs.length=fs.toList.length:=by simpa using G
            have A:∀(i:Nat) (f:Field) (vs:List V),fs.toList[i]? =some f->vss[i]? =some vs->∃x,xs[i]? =some x/\fF P σ₁ fuel f.type x.1 vs/\dA ρ₁ vs ((cs.drop f.offset).take<|P.cellsOf f.type):=fun i f vs hf hv=>by
              have hlt:i<xs.length:=by rw[G];exact(gA.1 hf).1
              obtain⟨R,N⟩:=hh i (f.type,(cs.drop f.offset).take<|P.cellsOf f.type) xs[i] vs (by rw[gM_,hf];rfl) (gC hlt) hv;exact⟨xs[i],gC hlt,R,N⟩
            have K:∀(i:Nat) (f:Field) (vs:List V),fs.toList[i]? =some f->vss[i]? =some vs->vs.length=P.cellsOf f.type:=fun i f vs hf hv=>by
              obtain⟨x,_,_,k⟩:=A i f vs hf hv;have h1:=k.length;have h2:=hle f (gB_ hf);rw[lT_,lD_] at h1;omega
            have Q:dA ρ₁ vss.flatten cs:=by
              have:=dA.flatten (Y:=ρ₁) (vss:=vss) (css:=fs.toList.map fun f=>(cs.drop f.offset).take (P.cellsOf f.type)) (by simpa using B) (fun i vs c hv C=>by
                rw[gM_] at C;cases hf:fs.toList[i]? with
                | none=>rw[hf] at C;cases C
                | some f=>
                  rw[hf] at C;cases C;obtain⟨x,_,_,k⟩:=A i f vs hf hv;exact k)
              rw[hflat,List.drop_zero,Nat.sub_zero,<-hlen,List.take_length] at this;exact this
            refine⟨ρ₁,σ₁,vss.flatten,W,X,l1,?_,Q⟩;unfold fF;rw[hu];dsimp only;intro _;refine⟨by simpa using G,by rw[<-hlen];exact Q.length.symm,fun i f x hf hx=>?_⟩;have L:fs.toList[i]? =some f:=by rw[aT_];exact hf
            have hlt:i<vss.length:=by rw[B];exact(gA.1 L).1
            obtain⟨_,hp⟩:=wm E K B L (gC hlt);obtain⟨y,hy,k,_⟩:=A i f vss[i] L (gC hlt);rw[gM_,hy] at hx;cases hx;rw[Nat.sub_zero] at hp;rw[hp];exact k
          · exact other fun vs=>by unfold fF;rw[hu];exact fun h'=>absurd h' E
        · cases h
      | array m e=>
        dsimp only at h;split at h
        · rename_i hlen
          obtain⟨xs,I,hx⟩:=oM_.1 h;have hd:d= .agg (xs.map (·.1)):=by have:=congrArg Prod.fst hx;simpa using this.symm
          subst hd
          by_cases E:P.cellsOf t=m*P.cellsOf e
          · obtain⟨ρ₁,σ₁,vss,W,X,l1,B,G,hh⟩:=rh ih ((List.range m).map fun i=>(e,(cs.drop (i*P.cellsOf e)).take<|P.cellsOf e)) xs (by rw[mapM_map];exact I) Y O hi M
            have B:vss.length=m:=by simpa using B
            have G:xs.length=m:=by simpa using G
            have A:∀(i:Nat) (vs:List V),vss[i]? =some vs->∃x,xs[i]? =some x/\fF P σ₁ fuel e x.1 vs/\dA ρ₁ vs ((cs.drop (i*P.cellsOf e)).take<|P.cellsOf e):=fun i vs hv=>by
              have z:i<m:=by rw[<-B];exact(gA.1 hv).1
              have hlt:i<xs.length:=by omega
              obtain⟨R,N⟩:=hh i (e,(cs.drop (i*P.cellsOf e)).take<|P.cellsOf e) xs[i] vs (by rw[gM_,zr_ z];rfl) (gC hlt) hv;exact⟨xs[i],gC hlt,R,N⟩
            have K:∀vs∈vss,vs.length=P.cellsOf e:=fun vs hv=>by
              obtain⟨i,z,rfl⟩:=List.getElem_of_mem hv;obtain⟨x,_,_,k⟩:=A i _ (gC z);have h1:=k.length;rw[lT_,lD_,hlen,E] at h1;have:(i+1)*P.cellsOf e<=m*P.cellsOf e:=nM_ _ oM;rw[Nat.succ_mul] at this;omega
            have Q:dA ρ₁ vss.flatten cs:=by
              have:=dA.flatten (Y:=ρ₁) (vss:=vss) (css:=(List.range m).map fun i=>(cs.drop (i*P.cellsOf e)).take (P.cellsOf e)) (by simpa using B) (fun i vs c hv C=>by
                obtain⟨x,_,_,k⟩:=A i vs hv;have z:i<m:=by rw[<-B];exact(gA.1 hv).1
                rw[gM_,zr_ z] at C;cases C;exact k)
              rw[chunks_flatten,<-E,<-hlen,List.take_length] at this;exact this
            refine⟨ρ₁,σ₁,vss.flatten,W,X,l1,?_,Q⟩;unfold fF;rw[hu];dsimp only;intro _;refine⟨by simpa using G,by rw[<-hlen];exact Q.length.symm,fun i x hx=>?_⟩
            have z:i<vss.length:=by
              have:=(gA.1 hx).1;rw[lM_] at this;omega
            rw[nD K<|gC z];obtain⟨y,hy,k,_⟩:=A i vss[i] (gC z);rw[gM_,hy] at hx;cases hx;exact k
          · exact other fun vs=>by unfold fF;rw[hu];exact fun h'=>absurd h' E
        · cases h
      | slice e=>
        split at h<;>first | (rename_i he;cases he;done) | skip
        all_goals first
          | (rename_i he
             cases h;exact one (v:=.av) Z (fun Y=>by simp only[VR]) (by unfold fF;rw[hu]))
          | (rename_i e' a len cap he
             cases he;exact Mg hw ih hu h hi M)
          | cases h
      | _=>exact other fun vs=>by unfold fF;rw[hu];trivial
end
variable {ca cs fi vs:List V} {mk:Mk} {e:Nat} {ob:cN}
section
variable {P:Program} {G:Cx} {ev:Operand->Option V} {O:aB}
theorem zS (O:aB) (o:cN):(O.alloc o).m.get O.next=some o:=PT.dY _ _ _
theorem r8 (O:aB) (o:cN) {b:Nat} (h:b<O.next):(O.alloc o).m.get b=O.m.get b:=PT.dL _ _ _ _ (Nat.ne_of_lt h)
theorem Cg (O:aB) (b:Nat) (o:cN):(O.setObj b o).m.get b=some o:=PT.dY _ _ _
theorem se (O:aB) {b b':Nat} (o:cN) (h:b'≠b):(O.setObj b o).m.get b'=O.m.get b':=PT.dL _ _ _ _ h
theorem an {v:V} (h:ev x=some v):eo P G ev O (.move x)= .val v O:=by
 show(match ev x with | some v=>HR.val v O | none=>_)=_;rw[h]
theorem aq {v:V} (h:ev x=some v):eo P G ev O (.assign x)= .val v O:=by
 show(match ev x with | some v=>HR.val v O | none=>_)=_;rw[h]
theorem bU {op:Op} {v:V} (hk:kindOf P op= .pure) (h:eh P ev op=some v):eo P G ev O op= .val v O:=by
 unfold eo;simp_all
theorem zI {op:Op} {v:V} (hk:kindOf P op= .read) (h:gE P ev O op=some v):eo P G ev O op= .val v O:=by
 unfold eo;simp_all
theorem uD {op:Op} (hk:kindOf P op= .alloc) (h:fP P ev op=some (ob,mk)):eo P G ev O op= .val (mk.of O.next) (O.alloc ob):=by
 unfold eo;simp_all
theorem lQ {op:Op} {r:HR} (hk:kindOf P op= .kT) (h:gD P G.ov ev O op=r):eo P G ev O op=r:=by
 unfold eo;rw[hk];exact h
theorem aw {t:TypeId} {b:Pos} {off:Nat} {cells:List V} {ro:Bool} {v:V} (hx:ev x=some (.ptr b off)) (hb:O.m.get b=some (.row cells e ro)) (d:dT P t=some none) (hv:nth cells off=some v):eo P G ev O (.load t x)= .val v O:=by
 refine zI Z ?_;simp only[gE,hx,hb,d,hv]
theorem aW {t:TypeId} {b:Pos} {off n:Nat} {cells:List V} {ro:Bool} (hx:ev x=some (.ptr b off)) (hb:O.m.get b=some (.row cells e ro)) (u:dT P t=some (some n)) (hl:off+n<=cells.length) (hv:(cells.drop off).take n=vs):eo P G ev O (.load t x)= .val (.agg vs) O:=by
 refine zI Z ?_;have d:Nat.ble (off+n) (dU cells)=true:=by rw[nE_,db];exact hl
 simp only[gE,hx,hb,u,d,cond_true,ej,eN,hv]
theorem ax {s:TypeId} {i:Nat} {b:Pos} {off k:Nat} (hx:ev x=some (.ptr b off)) (hk:og P s i=some k):eo P G ev O (.fieldAddr s x i)= .val (.ptr b (off+k)) O:=by
 refine bU Z ?_;unfold og at hk;simp only[eh,hx];cases d:structOf P s with
 | none=>simp_all
 | some fs=>
  rw[d] at hk;dsimp only at hk⊢;cases hf:fs[i]? with
  | none=>simp_all
  | some f=>
   rw[hf] at hk;dsimp only at hk⊢;rw[qi] at hk
   grind
theorem QA {t e:TypeId} {j:TypeInfo} {i:Operand} {b:Pos} {off len n:Nat} {c:rK} {k:IntKind} (d:P.underlying t=some (.slice e)) (hj:P.info? e=some j) (hx:ev x=some (.slice b off len c)) (hi:ev i=some (.int k (.ofNat n))) (hn:n<len):eo P G ev O (.indexAddr t x i)= .val (.ptr b (off+n*j.size)) O:=by
 refine bU Z ?_;have:Nat.ble (Nat.succ n) len=true:=by rw[nE_];exact hn
 simp only[eh,d,hx,hi,hj,this,cond_true]
theorem Q7 {c:Call} {t e:TypeId} {b:Pos} {off len:Nat} {cp:rK} (d:c.callee= .builtin .len) (u:c.argTypes[0]? =some t) (z:c.args.toList= [x]) (hu:P.underlying t=some (.slice e)) (hx:ev x=some (.slice b off len cp)):eo P G ev O (.call c)= .val (.int .i64 (.ofNat len)) O:=by
 refine bU (by simp[kindOf,d,isMap,u,hu]) ?_;simp only[eh,d,u,z,hx,zT,hu,Option.map_some]
theorem ay {o:BinOp} {t r:TypeId} {y:Operand} {a b v:V} (hx:ev x=some a) (hy:ev y=some b) (h:pH P (AP x || AP y) o t a b=some v):eo P G ev O (.binOp o t x y r)= .val v O:=by
 refine bU Z ?_;simp only[eh,hx,hy,h]
theorem aF {c a b:Operand} {q:Bool} {v:V} (d:ev c=some (.bool q)) (h:(if q then ev a else ev b)=some v):eo P G ev O (.pick c a b)= .val v O:=by
 refine bU Z ?_;cases q with
 | true=>simp only[eh,d];exact h
 | false=>simp only[eh,d];exact h
theorem dW {t:TypeId} {q:Bool} (hx:ev x=some (.bool q)):eo P G ev O (.unOp .not t x)= .val (.bool (!q)) O:=by
 refine bU Z ?_;simp only[eh,hx];cases q<;>rfl
theorem cH {e:TypeId} {v:V} (hx:ev x=some v) (d:cG v=some cs):eo P G ev O (.box e x)= .val (.ptr O.next 0) (O.alloc (.row cs e false)):=by
 exact uD (op:=.box e x) (mk:=.ptr) (ob:=.row cs e false) Z (by simp only[fP,hx,Option.bind_some,d])
theorem cu {e:TypeId} (hz:(fJ P e).bind cG=some cs) (d:uf P e=false):eo P G ev O (.alloc e)= .val (.ptr O.next 0) (O.alloc (.row cs e false)):=by
 exact uD (op:=.alloc e) (mk:=.ptr) (ob:=.row cs e false) Z (by simp only[fP,hz,d,cond_false])
theorem QB {t:TypeId} {y:Operand} {b:Pos} {off:Nat} {v:V} {cells:List V} {j:TypeInfo} (hx:ev x=some (.ptr b off)) (hy:ev y=some v) (d:cG v=some cs) (hb:O.m.get b=some (.row cells e false)) (hj:P.info? t=some j) (hl:cs.length=j.size) (hle:off+j.size<=cells.length) (aa:cM cs=true):
  eo P G ev O (.store t x y)= .skip (O.setObj b (.row (dJ cs cells off) e false)):=by
 refine lQ Z ?_
 have h1:(Nat.beq (dU cs) j.size && Nat.ble (off+j.size) (dU cells) && cM cs)=true:=by
  rw[bA_,bA_,Nat.beq_eq,nE_,db,db]
  simp_all
 simp only[gD,hx,hy,zt,d,hb,hj,h1,cond_true]
theorem aS {c:Call} {f:Operand} {g:Nat} {args:List V} (d:c.callee= .value f) (hf:ev f=some (.func g fi ca)) (u:jv ev c.args.toList=some args) (z:lI P g=true):eo P G ev O (.call c)= .enter g (fi++(args++ca)) O:=by
 refine lQ (by simp[kindOf,d]) ?_;simp only[gD,d,hf,u,Ah,z,cond_true,ep]
end
end Go.Ev
namespace Go.Ev
section
variable [Env] {P:Program} {G:Cx} {ev:Operand->Option V} {O:aB}
theorem aN {id:Nat} {Q:Ex->PT V->aB->Prop} {t:PT V} (h:Q .normal t O):jb id Q (.exit id) t O:=by
 show(if id=id then _ else _)
 simp_all
theorem jH {id j:Nat} {Q:Ex->PT V->aB->Prop} {t:PT V} (hj:Nat.beq j id=false) (h:Q (.exit j) t O):jb id Q (.exit j) t O:=by
 show(if j=id then _ else _);rw[if_neg (fun e=>by simp_all)];exact h
theorem aR {n i:Nat} {b:Code} {Q:Ex->PT V->aB->Prop} {t:PT V} (h:Q (.exit i) t O):dF P G n b Q (.exit i) t O:=h
theorem aH {n:Nat} {b:Code} {Q:Ex->PT V->aB->Prop} {t:PT V} (h:Q .ret t O):dF P G n b Q .ret t O:=h
theorem eH {t e:TypeId} {m:Nat} {x i:Operand} {b:Pos} {off len n:Nat} {c:rK} {k:IntKind} (d:P.underlying t=some (.slice e)) (hj:(P.info? e).map (·.size)=some m) (hx:ev x=some (.slice b off len c)) (hi:ev i=some (.int k (.ofNat n))) (hn:n<len):eo P G ev O (.indexAddr t x i)= .val (.ptr b (off+n*m)) O:=by
 cases hq:P.info? e with
 | none=>simp_all
 | some j=>
  rw[hq] at hj;cases hj;exact QA d hq hx hi hn
theorem gn {t:TypeId} {m:Nat} {x y:Operand} {b:Pos} {off:Nat} {v:V} {cs cells:List V} {e:Nat} (hx:ev x=some (.ptr b off)) (hy:ev y=some v) (hc:cG v=some cs) (hb:O.m.get b=some (.row cells e false)) (hj:(P.info? t).map (·.size)=some m) (hl:cs.length=m) (hle:off+m<=cells.length) (aa:cM cs=true):
  eo P G ev O (.store t x y)= .skip (O.setObj b (.row (dJ cs cells off) e false)):=by
 cases hq:P.info? t with
 | none=>simp_all
 | some j=>
  grind [QB]
end
end Go.Ev
namespace Go.Ev
variable [Env]
variable {α:Type} {parts:Array (Nat×Operand)} {places:List (Nat×Nat)} {cs vs:List V} {la:List α} {e j:Nat} {I:Nat->PT V->aB->Prop} {io x xo:Operand} {u:V} {ob:cN} {R:α->List V->Prop}
abbrev KP:=Nat->cN->Prop
def KP.le (K K':KP):Prop:=∀b o,K b o->K' b o
theorem KP.le_refl (K:KP):KP.le K K:=fun _ _ h=>h
theorem KP.le_trans {K K' K'':KP} (h:KP.le K K') (h':KP.le K' K''):KP.le K K'':=fun b o hb=>h' b o (h b o hb)
def KP.add (K:KP) (b:Nat) (o:cN):KP:=fun b' o'=>K b' o'∨(b'=b/\o'=o)
theorem KP.Mh (K:KP) (b:Nat) (o:cN):KP.le K (K.add b o):=fun _ _ h=>.inl h
abbrev Own:=List (Nat×cN)
structure H (O:aB) (K:KP) (L:Own):Prop where
 kept:∀b o,K b o->b<O.next/\O.m.get b=some o/\∀e∈L,e.1≠b
 own:∀e∈L,e.1<O.next/\O.m.get e.1=some e.2
 ne:L.Pairwise fun a b=>a.1≠b.1
section
variable {O:aB} {K:KP} {L:Own}
theorem H.cg (h:H O K L) {b:Nat} {o:cN} (hk:K b o):O.m.get b=some o:=(h.kept b o hk).2.1
theorem H.get (h:H O K L) (k:Nat) {b:Nat} {o:cN} (hk:L[k]? =some (b,o)):O.m.get b=some o:=(h.own _<|gB_ hk).2
theorem H.alloc (h:H O K L) (o:cN):H (O.alloc o) K ((O.next,o)::L) where
 kept b o' hb:=by
  obtain⟨h1,d,h3⟩:=h.kept b o' hb;refine⟨Nat.lt_succ_of_lt h1,by rw[r8 O o h1];exact d,fun e he=>?_⟩
  grind
 own e he:=by
  rcases mQ_.1 he with rfl | he
  ·exact⟨Nat.lt_succ_self _,zS _ _⟩
  obtain⟨h1,d⟩:=h.own e he;exact⟨Nat.lt_succ_of_lt h1,by rw[r8 O o h1];exact d⟩
 ne:=List.pairwise_cons.2 ⟨fun e he=>fun hh=>by have:=(h.own e he).1;omega,h.ne⟩
theorem H.pop {e:Nat×cN} (h:H O K (e::L)):H O K L where
 kept b o hb:=let ⟨h1,d,u⟩:=h.kept b o hb;⟨h1,d,fun e he=>u e (mC_ _ he)⟩
 own e he:=h.own e (mC_ _ he)
 ne:=(List.pairwise_cons.1 h.ne).2
theorem H.bG:∀{M:Own},H O K (M++L)->H O K L
 | [],h=>h
 | _::_,h=>H.bG h.pop
theorem H.perm {L':Own} (h:H O K L) (hp:L.Perm L'):H O K L' where
 kept b o hb:=let ⟨h1,u,z⟩:=h.kept b o hb;⟨h1,u,fun e he=>z e (hp.mem_iff.2 he)⟩
 own e he:=h.own e (hp.mem_iff.2 he)
 ne:=(hp.pairwise_iff (fun {a b} d=>fun e=>d e.symm)).1 h.ne
theorem H.uT {b:Nat} {o:cN} (h:H O K ((b,o)::L)):H O (K.add b o) L where
 kept b' o' hb:=by
  rcases hb with hb | ⟨rfl,rfl⟩
  ·exact h.pop.kept b' o' hb
  exact⟨(h.own _<|mS_ ..).1,(h.own _<|mS_ ..).2,fun e he hh=>(List.pairwise_cons.1 h.ne).1 e he hh.symm⟩
 own:=h.pop.own
 ne:=h.pop.ne
theorem H.ui {b:Nat} {o:cN} (h:H O K ((b,o)::L)) (o':cN):H (O.setObj b o') K ((b,o')::L) where
 kept b' o'' hb:=by
  obtain⟨h1,d,h3⟩:=h.kept b' o'' hb;refine⟨h1,by grind [se,mS_],fun e he=>?_⟩;rcases mQ_.1 he with rfl | he
  ·simp_all
  grind
 own e he:=by
  rcases mQ_.1 he with rfl | he
  ·exact⟨(h.own _<|mS_ ..).1,Cg _ _ _⟩
  obtain⟨h1,d⟩:=h.own e (mC_ _ he);exact⟨h1,by rw[se O o' (fun hh=>(List.pairwise_cons.1 h.ne).1 e he hh.symm)];exact d⟩
 ne:=List.pairwise_cons.2 ⟨(List.pairwise_cons.1 h.ne).1,(List.pairwise_cons.1 h.ne).2⟩
theorem H.P9 {b:Nat} {o:cN} {x:Nat×cN} (h:H O K (x::(b,o)::L)) (o':cN):H (O.setObj b o') K (x::(b,o')::L):=
 ((h.perm<|List.Perm.swap ..).ui o').perm (List.Perm.swap ..)
theorem MW (x y z:α) (L:List α):(x::y::z::L).Perm (z::x::y::L):=
 (List.Perm.cons x<|List.Perm.swap z y L).trans (List.Perm.swap z x (y::L))
theorem H.Ui {b:Nat} {o:cN} {x y:Nat×cN} (h:H O K (x::y::(b,o)::L)) (o':cN):H (O.setObj b o') K (x::y::(b,o')::L):=
 ((h.perm<|MW ..).ui o').perm (MW ..).symm
theorem QV (x y z u:α) (L:List α):(x::y::z::u::L).Perm (u::x::y::z::L):=
 (List.Perm.cons x<|MW y z u L).trans (List.Perm.swap u x (y::z::L))
theorem H.VT {b:Nat} {o:cN} {x y z:Nat×cN} (h:H O K (x::y::z::(b,o)::L)) (o':cN):H (O.setObj b o') K (x::y::z::(b,o')::L):=
 ((h.perm<|QV ..).ui o').perm (QV ..).symm
theorem H.CK {b:Nat} {o:cN} (h:H O K ((b,o)::L)) (o':cN):H ((O.drop b).alloc o') K ((O.next,o')::L):=by
 refine H.alloc (O:=O.drop b) ⟨fun b' o'' hb=>?_,fun e he=>?_,h.pop.ne⟩ o'
 ·obtain⟨h1,d,u⟩:=h.kept b' o'' hb;exact⟨h1,by rw[show(O.drop b).m.get b'=O.m.get b' from PT.dL _ _ _ _ (fun e=>u _ (mS_ ..) e.symm)];exact d,fun e he=>u e (mC_ _ he)⟩
 obtain⟨h1,d⟩:=h.own e (mC_ _ he);exact⟨h1,by rw[show(O.drop b).m.get e.1=O.m.get e.1 from PT.dL _ _ _ _ (fun hh=>(List.pairwise_cons.1 h.ne).1 e he hh.symm)];exact d⟩
theorem H.named (h:H O K L):∃L',H O K L'/\L=L':=⟨L,h,Z⟩
end
def fc (K:KP) (p:V) (vs:List V):Prop:=
 ∃(b off:Nat) (cells:List V) (e:Nat) (ro:Bool),p= .ptr b off/\K b (.row cells e ro)/\off+vs.length<=cells.length/\(cells.drop off).take vs.length=vs
def QC (m len:Nat) (c:rK):Prop:=c= .upto m∨∃n,c= .known n/\len<=n
def bO {α:Type} (K:KP) (m:Nat) (R:α->List V->Prop) (l:List α) (v:V):Prop:=
 (l= []/\v= .av)∨∃(b off:Nat) (c:rK) (cells:List V) (e:Nat) (ro:Bool),v= .slice b off l.length c/\QC m l.length c/\K b (.row cells e ro)/\off+l.length*m<=cells.length/\l.length<=9223372036854775807/\
  ∀(i:Nat) (x:α),l[i]? =some x->R x ((cells.drop (off+i*m)).take m)
theorem bO.mono {K K':KP} {m:Nat} {R':α->List V->Prop} {l:List α} {v:V} (h:bO K m R l v) (hk:KP.le K K') (d:∀x vs,R x vs->R' x vs):bO K' m R' l v:=by
 rcases h with h | ⟨b,off,c,cells,e,ro,h1,u,z,A,h5⟩
 ·exact .inl h
 exact .inr ⟨b,off,c,cells,e,ro,h1,u,hk _ _ z,A,h5.1,fun i x hx=>d x _ (h5.2 i x hx)⟩
theorem bO.cS {K:KP} {m:Nat} {l:List α} {v:V} (h:bO K m R l v):l.length<=9223372036854775807:=by
 rcases h with ⟨rfl,_⟩ | ⟨b,off,c,cells,e,ro,h1,h2,h3,h4,h5,_⟩
 ·exact Nat.zero_le _
 exact h5
theorem bO.leaf {K:KP} {m:Nat} {l:List α} {v:V} (h:bO K m R l v):cG v=some [v]/\eB v=true:=by
 rcases h with ⟨_,rfl⟩ | ⟨b,off,c,cells,e,ro,rfl,_⟩<;>exact⟨rfl,rfl⟩
theorem bO.zT {α:Type} {K:KP} {m:Nat} {R:α->List V->Prop} {l:List α} {v:V} (h:bO K m R l v) {P:Program} {t e:TypeId} (hu:P.underlying t=some (.slice e)):Go.Ev.zT P t v=some l.length:=by
 rcases h with ⟨rfl,rfl⟩ | ⟨b,off,c,cells,e,ro,rfl,_⟩
 ·simp only[Go.Ev.zT,hu];rfl
 simp only[Go.Ev.zT,hu]
theorem bO.at {α:Type} {K:KP} {m:Nat} {R:α->List V->Prop} {l:List α} {v:V} (h:bO K m R l v) {i:Nat} {x:α} (hi:l[i]? =some x):
  ∃(b off:Nat) (c:rK) (vs:List V),v= .slice b off l.length c/\i<l.length/\fc K (.ptr b (off+i*m)) vs/\vs.length=m/\R x vs:=by
 have hlt:i<l.length:=(gA.1 hi).1;rcases h with ⟨rfl,_⟩ | ⟨b,off,c,cells,e,ro,rfl,h2,d,h4,h5⟩
 ·simp_all
 have hle:(i+1)*m<=l.length*m:=nM_ _ hlt;rw[Nat.succ_mul] at hle;have hn:((cells.drop (off+i*m)).take m).length=m:=by grind
 refine⟨b,off,c,_,Z,hlt,⟨b,off+i*m,cells,e,ro,Z,d,by rw[hn];omega,by rw[hn]⟩,hn,h5.2 i x hi⟩
section
variable {P:Program} {G:Cx} {ev:Operand->Option V} {O:aB} {K:KP} {L:Own}
theorem a6 {m:Nat} {l:List α} {c:Call} {t e:TypeId} {v:V} (z:bO K m R l v) (d:c.callee= .builtin .len) (u:c.argTypes[0]? =some t) (A:c.args.toList= [x]) (hu:P.underlying t=some (.slice e)) (hx:ev x=some v):eo P G ev O (.call c)= .val (.int .i64 (.ofNat l.length)) O:=by
 refine bU (by simp[kindOf,d,isMap,u,hu]) ?_;simp only[eh,d,u,A,hx,z.zT hu,Option.map_some]
theorem aQ {t:TypeId} {p v:V} (d:H O K L) (hp:fc K p vs) (hx:ev x=some p) (u:dT P t=some none) (hv:vs[0]? =some v):eo P G ev O (.load t x)= .val v O:=by
 obtain⟨b,off,cells,e,ro,rfl,z,h3,h4⟩:=hp;refine aw hx (d.cg z) u ?_
 grind [fY]
theorem Oc {t:TypeId} {p:V} {n:Nat} (d:H O K L) (hp:fc K p vs) (hx:ev x=some p) (u:dT P t=some (some n)) (hv:n<=vs.length):eo P G ev O (.load t x)= .val (.agg<|vs.take n) O:=by
 obtain⟨b,off,cells,e,ro,rfl,z,h3,h4⟩:=hp;refine aW hx (d.cg z) u oM ?_
 grind
end
section
variable {P:Program} {G:Cx} {n:Nat} {t:PT V} {O:aB} {K:KP} {L:Own} {Q:Ex->PT V->aB->Prop} {ops:Array Oper} {o:Oper} {l:List Oper}
theorem a8 {c:Bool} {t':Bool->PT V} (hw:bR ops t o=some true) (hv:eo P G (bI G t) O o.op= .val (.bool c) O) (hp:∀b,dE t n o.dst (.bool b)=some (t' b))
  (h1:c=true->bZ P G ops n l (t' true) O Q) (h0:c=false->bZ P G ops n l (t' false) O Q):bZ P G ops n (o::l) t O Q:=by
 refine J hw hv (hp c) ?_;cases c with
 | true=>exact h1 Z
 | false=>exact h0 Z
theorem bA (d:H O K L) {t':Nat->PT V} (hw:bR ops t o=some true) (hv:eo P G (bI G t) O o.op= .val (.ptr O.next 0) (O.alloc ob)) (hp:∀b,dE t n o.dst (.ptr b 0)=some (t' b))
  (h:∀(O':aB) (b:Nat),H O' K ((b,ob)::L)->bZ P G ops n l (t' b) O' Q):bZ P G ops n (o::l) t O Q:=
 J hw hv (hp _) (h _ _<|d.alloc ob)
theorem fh (d:H O K L) {k c:Nat} {t':Nat->PT V} (hw:bR ops t o=some true) (hv:eo P G (bI G t) O o.op= .val (.slice O.next 0 k (.known c)) (O.alloc ob)) (hp:∀b,dE t n o.dst (.slice b 0 k (.known c))=some (t' b))
  (h:∀(O':aB) (b:Nat),H O' K ((b,ob)::L)->bZ P G ops n l (t' b) O' Q):bZ P G ops n (o::l) t O Q:=
 J hw hv (hp _) (h _ _<|d.alloc ob)
theorem bT {b:Nat} {ob':cN} {t':PT V} (d:H O K ((b,ob)::L)) (hw:bR ops t o=some true) (hv:eo P G (bI G t) O o.op= .skip (O.setObj b ob')) (hp:dE t n o.dst unit=some t')
  (h:∀O',H O' K ((b,ob')::L)->bZ P G ops n l t' O' Q):bZ P G ops n (o::l) t O Q:=iq hw hv hp (h _<|d.ui ob')
theorem gw {b:Nat} {ob':cN} {x:Nat×cN} {t':PT V} (d:H O K (x::(b,ob)::L)) (hw:bR ops t o=some true) (hv:eo P G (bI G t) O o.op= .skip (O.setObj b ob')) (hp:dE t n o.dst unit=some t')
  (h:∀O',H O' K (x::(b,ob')::L)->bZ P G ops n l t' O' Q):bZ P G ops n (o::l) t O Q:=iq hw hv hp (h _<|d.P9 ob')
theorem lg {b:Nat} {ob':cN} {x y:Nat×cN} {t':PT V} (d:H O K (x::y::(b,ob)::L)) (hw:bR ops t o=some true) (hv:eo P G (bI G t) O o.op= .skip (O.setObj b ob')) (hp:dE t n o.dst unit=some t')
  (h:∀O',H O' K (x::y::(b,ob')::L)->bZ P G ops n l t' O' Q):bZ P G ops n (o::l) t O Q:=iq hw hv hp (h _<|d.Ui ob')
theorem Mz {b:Nat} {ob':cN} {x y z:Nat×cN} {t':PT V} (d:H O K (x::y::z::(b,ob)::L)) (hw:bR ops t o=some true) (hv:eo P G (bI G t) O o.op= .skip (O.setObj b ob')) (hp:dE t n o.dst unit=some t')
  (h:∀O',H O' K (x::y::z::(b,ob')::L)->bZ P G ops n l t' O' Q):bZ P G ops n (o::l) t O Q:=iq hw hv hp (h _<|d.VT ob')
theorem cA {m:Nat} {v:V} {i:Nat} {x:α} {ty e:TypeId} {k:IntKind} {t':V->PT V} (u:bO K m R la v) (hi:la[i]? =some x) (hw:bR ops t o=some true) (z:o.op= .indexAddr ty xo io)
  (A:P.underlying ty=some (.slice e)) (hj:(P.info? e).map (·.size)=some m) (hx:bI G t xo=some v) (d:bI G t io=some (.int k (.ofNat i))) (hp:∀p,dE t n o.dst p=some (t' p))
  (h:∀p vs,fc K p vs->vs.length=m->R x vs->bZ P G ops n l (t' p) O Q):bZ P G ops n (o::l) t O Q:=by
 obtain⟨b,off,c,vs,rfl,hlt,h1,B,C⟩:=u.at hi;refine J hw ?_ (hp _)<|h _ vs h1 B C;rw[z];exact eH A hj hx d hlt
theorem de {p:V} {s:TypeId} {i k:Nat} {t':V->PT V} (d:fc K p vs) (hw:bR ops t o=some true) (u:o.op= .fieldAddr s xo i) (hx:bI G t xo=some p) (hk:og P s i=some k) (hl:k<=vs.length) (hp:∀p,dE t n o.dst p=some (t' p))
  (h:∀p',fc K p' (vs.drop k)->bZ P G ops n l (t' p') O Q):bZ P G ops n (o::l) t O Q:=by
 obtain⟨b,off,cells,e,ro,rfl,z,h3,h4⟩:=d;refine J hw ?_ (hp _)<|h _ ⟨b,off+k,cells,e,ro,Z,z,by grind,?_⟩
 ·rw[u];exact ax hx hk
 grind [List.drop_take,zl_]
theorem cq {f:Nat} {args:List V} {t':V->PT V} {R:V->aB->Prop} (hw:bR ops t o=some true) (hv:eo P G (bI G t) O o.op= .enter f args O) (hp:∀v,dE t n o.dst v=some (t' v))
  (d:bh P G f args O R) (h:∀v O',R v O'->bZ P G ops n l (t' v) O' Q):bZ P G ops n (o::l) t O Q:=
 Gf hw hv (d.mono fun v O' u=>⟨_,hp v,h v O' u⟩)
theorem aG {a b:Code} {c:Bool} (d:bI G t x=some (.bool c)) (h1:c=true->Ev P G a n t O Q) (h0:c=false->Ev P G b n t O Q):Ev P G (.cond x a b) n t O Q:=by
 refine B0 d ?_
 grind
end
theorem aC:cM []=true:=rfl
theorem aj {v:V} (h:eB v=true) (hs:cM vs=true):cM (v::vs)=true:=by
 grind [cM]
section
variable {P:Program} {G:Cx} {ev:Operand->Option V} {O:aB} {K:KP} {L:Own}
theorem aO {t:TypeId} {m:Nat} {y:Operand} {b:Pos} {off:Nat} {v:V} {cells cells':List V} (hx:ev x=some (.ptr b off)) (hy:ev y=some v) (u:cG v=some cs) (hb:O.m.get b=some (.row cells e false)) (hj:(P.info? t).map (·.size)=some m) (hl:cs.length=m) (hle:off+m<=cells.length) (d:cM cs=true) (z:dJ cs cells off=cells'):
  eo P G ev O (.store t x y)= .skip (O.setObj b (.row cells' e false)):=by
 subst z;exact gn hx hy u hb hj hl hle d
theorem bW {t:TypeId} {p:V} {n:Nat} (hs:H O K L) (hp:fc K p vs) (hx:ev x=some p) (ha:dT P t=some (some n)) (hv:vs.length=n):eo P G ev O (.load t x)= .val (.agg vs) O:=by
 grind [Oc,List.take_length]
def placesOf (P:Program) (t:TypeId):Option (List (Nat×Nat)):=(structOf P t).bind fun fs=>dv (fun f:Field=>(P.info? f.type).map fun j=>(f.offset,j.size)) fs.toList
theorem bE {place:Nat->Option (Nat×Nat)} {cells:List V}:jK place ev [] cells=some cells:=rfl
theorem aZ {place:Nat->Option (Nat×Nat)} {i:Nat} {l:List (Nat×Operand)} {cells:List V} {off size:Nat} {v:V} {r:Option (List V)} (hp:place i=some (off,size)) (hx:ev x=some v) (hc:cG v=some vs) (hl:(Nat.beq (dU vs) size && Nat.ble (off+size) (dU cells))=true) (h:jK place ev l (dJ vs cells off)=r):jK place ev ((i,x)::l) cells=r:=by
 grind [jK]
theorem cE {t:TypeId} {zero:List V} (hp:placesOf P t=some places) (hz:(fJ P t).bind cG=some zero) (hu:dT P t=some (some zero.length)) (hf:jK (nth places) ev parts.toList zero=some cs) (d:(structOf P t).isSome=true):eo P G ev O (.build t parts)= .val (.agg cs) O:=by
 refine bU Z ?_;unfold placesOf structOf at hp;unfold structOf at d;rw[oH] at hp d;simp only[eh,hz]
 grind
theorem Sy {s d:TypeId} {j k:IntKind} {n:Int} (hk:kindOf P (.convert s d x)= .pure) (u:P.underlying s=some (.int j)) (hd:P.underlying d=some (.int k)) (hx:ev x=some (.int j n)):eo P G ev O (.convert s d x)= .val (.int k<|wr k n) O:=by
 refine bU hk ?_;simp only[eh,u,hd,hx]
end
section
variable {P:Program} {G:Cx} {n:Nat} {t:PT V} {O:aB} {K:KP} {L:Own} {Q:Ex->PT V->aB->Prop} {ops:Array Oper} {o:Oper} {l:List Oper}
theorem gz {f:Nat} {args:List V} {c:Bool} {t':V->PT V} (hw:bR ops t o=some true) (hv:eo P G (bI G t) O o.op= .enter f args O) (hp:∀v,dE t n o.dst v=some (t' v))
  (d:bh P G f args O fun v O'=>v= .bool c/\H O' K L) (h1:c=true->∀O',H O' K L->bZ P G ops n l (t' (.bool true)) O' Q) (h0:c=false->∀O',H O' K L->bZ P G ops n l (t' (.bool false)) O' Q):bZ P G ops n (o::l) t O Q:=
 cq hw hv hp d fun v O' ⟨hv,ar⟩=>by
  subst hv;cases c with
  | true=>exact h1 Z O' ar
  | false=>exact h0 Z O' ar
theorem bJ {f:Nat} {args:List V} {t':V->PT V} (hw:bR ops t o=some true) (hv:eo P G (bI G t) O o.op= .enter f args O) (hp:∀v,dE t n o.dst v=some (t' v))
  (d:bh P G f args O fun v O'=>v=u/\H O' K L) (h:∀O',H O' K L->bZ P G ops n l (t' u) O' Q):bZ P G ops n (o::l) t O Q:=
 cq hw hv hp d fun v O' ⟨hv,ar⟩=>by simp_all
theorem br {a b:Code} (d:bI G t x=some (.bool true)) (h:Ev P G a n t O Q):Ev P G (.cond x a b) n t O Q:=B0 d h
theorem bB {a b:Code} (d:bI G t x=some (.bool false)) (h:Ev P G b n t O Q):Ev P G (.cond x a b) n t O Q:=B0 d h
theorem ad {b:Code} (h:Ev P G b n t O Q):dF P G n b Q .normal t O:=h
theorem az {id:Nat} (h:Q .normal t O):jb id Q .normal t O:=h
theorem aP {id:Nat} (h:Q .ret t O):jb id Q .ret t O:=h
def yF (I:Nat->PT V->aB->Prop) (j:Nat) (Q:Ex->PT V->aB->Prop) (e:Ex) (t:PT V) (O:aB):Prop:=
 match e with
 | .normal=>∃i,i<j/\I i t O
 | e=>Q e t O
theorem aD (h:∃i,i<j/\I i t O):yF I j Q .normal t O:=h
theorem aU {i:Nat} (h:Q (.exit i) t O):yF I j Q (.exit i) t O:=h
theorem bX (h:Q .ret t O):yF I j Q .ret t O:=h
theorem Lt {b:Code} (I:Nat->PT V->aB->Prop) (j:Nat) (d:I j t O) (step:∀j t O,I j t O->Ev P G b n t O (yF I j Q)):Ev P G (.loop b) n t O Q:=
 OW I (fun j t O h=>(step j t O h).mono fun e t' O' hq=>by cases e<;>exact hq) j t O d
end
def L5:Nat:=1000
def JS (f:Nat):Bool:=Nat.beq f 4
def NG (f:Nat):Bool:=Nat.beq f 17
structure Plain (G:Cx):Prop where
 h1:∀f a s,NG f=false->G.Gv f a s=none
 h2:∀f a,JS f=false->G.NN f a=none
 h3:G.mem= []
 h4:∀f a s,G.stop f a s=none
 h5:∀f,Nat.beq f L5=false->G.fk f=false
theorem Lu {P:Program} {G:Cx} (d:Plain G) {f:Nat} {fn:Func} {c:Code} {args:List V} {O:aB} {R:V->aB->Prop} {t:PT V} (hf:P.funcs[f]? =some fn) (hb:fn.body=some c) (u:rS fn.ntmps args=some t)
  (h:Ev P G c fn.ntmps t O fun e t' O'=>(e= .normal∨e= .ret)/\∃v,e7 P fn t' O'=some v/\R v O') (hk:Nat.beq f L5=false:=by rfl) (hl:JS f=false:=by rfl) (z:NG f=false:=by rfl):bh P G f args O R:=
 OV (d.h1 _ _ _ z) (d.h2 _ _ hl) (d.h4 _ _ _) (d.h5 _ hk) hf hb u h
def Ga (P:Program) (fn:Func) (R:V->aB->Prop) (e:Ex) (t:PT V) (O:aB):Prop:=(e= .normal∨e= .ret)/\∃v,e7 P fn t O=some v/\R v O
theorem a7 {P:Program} {G:Cx} (d:Plain G) {f:Nat} {fn:Func} {c:Code} {args:List V} {O:aB} {R:V->aB->Prop} {t:PT V} (hf:P.funcs[f]? =some fn) (hb:fn.body=some c) (u:rS fn.ntmps args=some t)
  (h:Ev P G c fn.ntmps t O (Ga P fn R)) (hk:Nat.beq f L5=false:=by rfl) (hl:JS f=false:=by rfl) (z:NG f=false:=by rfl):bh P G f args O R:=Lu d hf hb u h hk hl z
theorem ET {P:Program} {fn:Func} {k:Nat} {t:PT V} {O:aB} {v:V} (d:fn.results.toList= [.tmp k]) (h:t.get k=some v):e7 P fn t O=some v:=by
 unfold e7;rw[d]
 have:dv (gQ P t O) [.tmp k]=some [v]:=by
  have h':gQ P t O (.tmp k)=some v:=h;unfold dv;simp only[h']
 rw[this]
theorem qE {P:Program} {fn:Func} {k:Nat} {t:PT V} {O:aB} {v:V} (A:fn.results.toList= [.tmp j,.tmp k]) (h1:t.get j=some u) (B:t.get k=some v):e7 P fn t O=some (.tuple [u,v]):=by
 unfold e7;rw[A]
 have:dv (gQ P t O) [.tmp j,.tmp k]=some [u,v]:=by
  have d:gQ P t O (.tmp j)=some u:=h1;have z:gQ P t O (.tmp k)=some v:=B;unfold dv;simp only[d,z]
 rw[this]
theorem aA {P:Program} {fn:Func} {R:V->aB->Prop} {t:PT V} {O:aB} {k:Nat} {v:V} (d:fn.results.toList= [.tmp k]) (h:t.get k=some v) (u:R v O):Ga P fn R .ret t O:=⟨.inr Z,v,ET d h,u⟩
theorem fN {P:Program} {fn:Func} {R:V->aB->Prop} {t:PT V} {O:aB} {k:Nat} {v:V} (d:fn.results.toList= [.tmp j,.tmp k]) (h1:t.get j=some u) (z:t.get k=some v) (A:R (.tuple [u,v]) O):Ga P fn R .ret t O:=⟨.inr Z,_,qE d h1 z,A⟩
end Go.Ev
namespace Go.Ev
theorem kJ.eta {α:Type} (t:kJ α):t=⟨(ka 0).run t,(ka 1).run t,(ka 2).run t,(ka 3).run t,(ka 4).run t,(ka 5).run t,(ka 6).run t,(ka 7).run t,(ka 8).run t,(ka 9).run t,(ka 10).run t,(ka 11).run t,(ka 12).run t,(ka 13).run t,(ka 14).run t,(ka 15).run t⟩:=by cases t;rfl
theorem kJ.same {α:Type} {t t':kJ α} (h:∀n,n<16->(ka n).run t=(ka n).run t'):t=t':=by
 rw[kJ.eta t,h 0 (by decide),h 1 (by decide),h 2 (by decide),h 3 (by decide),h 4 (by decide),h 5 (by decide),h 6 (by decide),h 7 (by decide),h 8 (by decide),h 9 (by decide),h 10 (by decide),h 11 (by decide),h 12 (by decide),h 13 (by decide),h 14 (by decide),h 15 (by decide),<-kJ.eta t']
theorem jG.same {α:Type} {t t':jG α} (h:∀k,k<256->kS t k=kS t' k):t=t':=by
 refine kJ.same fun n hn=>kJ.same fun m hm=>?_
 have:=h (n*16+m) oM;unfold kS at this;have e1:Nat.div (n*16+m) 16=n:=by show(n*16+m)/16=n;omega
 have e2:Nat.mod (n*16+m) 16=m:=by show(n*16+m)%16=m;omega
 simp_all
variable [Env] {W:List Nat} {e:Nat}
def aY (W:List Nat) (t t':PT V):Prop:=t'.m=t.m/\t'.l=t.l/\∀k,k<256->W.elem k=false->kS t'.s k=kS t.s k
theorem aY.refl (W:List Nat) (t:PT V):aY W t t:=⟨Z,Z,fun _ _ _=>Z⟩
theorem aY.put {W:List Nat} {t t':PT V} {w:Nat} {o:Option V} (hw:(W.elem w && Nat.blt w 256)=true) (h:aY W t t'):aY W t (t'.put o w):=by
 obtain⟨h1,d,u⟩:=h;rw[bA_,tA] at hw;obtain⟨s,m,l⟩:=t';rw[PT.wg _ _ _ _ hw.2];refine⟨h1,d,fun k hk hn=>?_⟩;show kS (sZ s w o) k=_;rw[mm _ _ _ _ hw.2 hk,if_neg (fun e=>by simp_all)];exact u k hk hn
theorem aY.dg {t t':PT V} {w:Nat} (hw:Nat.blt w 256=true) (h:aY (w::W) t t'):∃o,aY W (t.put o w) t':=by
 rw[tA] at hw;obtain⟨h1,d,h3⟩:=h;refine⟨t'.get w,?_⟩;obtain⟨s,m,l⟩:=t;rw[PT.wg _ _ _ _ hw,PT.r9 _ hw];refine⟨h1,d,fun k hk hn=>?_⟩
 grind [mm]
theorem aY.iu {t t':PT V} {a b c d:Nat} (hw:(Nat.blt a 256 && (Nat.blt b 256 && (Nat.blt c 256 && Nat.blt d 256)))=true) (h:aY (a::b::c::d::W) t t'):∃u z A B,aY W ((((t.put u a).put z b).put A c).put B d) t':=by
 simp only[bA_] at hw;obtain⟨h1,C,E,I⟩:=hw;obtain⟨u,h⟩:=h.dg h1;obtain⟨z,h⟩:=h.dg C;obtain⟨A,h⟩:=h.dg E;obtain⟨B,h⟩:=h.dg I
 grind
theorem aY.bP {t t':PT V} {a b c d f g i:Nat} (hw:(Nat.blt a 256 && (Nat.blt b 256 && (Nat.blt c 256 && Nat.blt d 256)))=true) (u:(Nat.blt e 256 && (Nat.blt f 256 && (Nat.blt g 256 && Nat.blt i 256)))=true) (h:aY (a::b::c::d::e::f::g::i::W) t t'):
  ∃z A B C E I K L,aY W ((((((((t.put z a).put A b).put B c).put C d).put E e).put I f).put K g).put L i) t':=by
 obtain⟨z,A,B,C,h⟩:=h.iu hw;obtain⟨E,I,K,L,h⟩:=h.iu u
 grind
theorem aY.nil {t t':PT V} (h:aY [] t t'):t'=t:=by
 obtain⟨s,m,l⟩:=t;obtain⟨s',m',l'⟩:=t';obtain⟨h1,h2,d⟩:=h;have:s'=s:=jG.same fun k hk=>d k hk Z
 simp_all
section
variable {P:Program} {G:Cx} {n:Nat} {t:PT V} {O:aB} {Q:Ex->PT V->aB->Prop}
theorem bk {b:Code} (W:List Nat) (I:Nat->PT V->aB->Prop) (j:Nat) (d:I j t O) (step:∀j t' O,aY W t t'->I j t' O->Ev P G b n t' O (yF (fun j t'' O=>aY W t t''/\I j t'' O) j Q)):Ev P G (.loop b) n t O Q:=
 Lt (fun j t'' O=>aY W t t''/\I j t'' O) j ⟨aY.refl _ _,d⟩ fun j t' O h=>step j t' O h.1 h.2
end
theorem lK {a b:Nat}:dH (.ofNat a) (.ofNat b)=decide (a<b):=by
 show Nat.ble (Nat.succ a) b=_;rw[zd_,nE_,decide_eq_true_iff];rfl
theorem eW {a b:Nat}:F (.ofNat a) (.ofNat b)=decide (a=b):=by
 show Nat.beq a b=_;rw[zd_,Nat.beq_eq,decide_eq_true_iff]
theorem aX {i:Nat} (h:i<9223372036854775807):wr .i64 (Int.add (.ofNat i) (.ofNat 1))= .ofNat (i+1):=by
 show(bif Nat.ble (i+1) 9223372036854775807 then _ else _)=_
 grind [nE_]
end Go.Ev
namespace Go.Ev
variable [Env] {α:Type} {cs vs:List V} {la:List α} {e j:Nat} {io xo:Operand} {u:V} {ob:cN} {R:α->List V->Prop}
section
variable {P:Program} {G:Cx} {n:Nat} {t:PT V} {O:aB} {K:KP} {L:Own} {Q:Ex->PT V->aB->Prop} {ops:Array Oper} {o:Oper} {i:Nat} {rc:List Nat} {l:List (Nat×List Nat)}
theorem pZ {v:V} {t':PT V} {O':aB} (hi:ops[i]? =some o) (hw:bR ops t o=some true) (hv:eo P G (bI G t) O o.op= .val v O') (hp:dE t n o.dst v=some t') (h:dy P G ops t' O' rc=true/\cR P G ops n l t' O' Q):cR P G ops n ((i,rc)::l) t O Q:=by
 obtain⟨hs,K,e,u,z,h1,A⟩:=h;refine⟨K,e,u,z,fun d k hk=>?_,A⟩
 show(match ops[i]? with
  | some o=>iy P G (eI P G k) false ops n o t O (fun t' O'=>bif dy P G ops t' O' rc then ki P G (eI P G k) ops n d l t' O' else .err 86)
  | none=>.err 87)=_
 grind [iy,lf]
theorem lG {t':PT V} {O':aB} (hi:ops[i]? =some o) (hw:bR ops t o=some true) (hv:eo P G (bI G t) O o.op= .skip O') (hp:dE t n o.dst unit=some t') (h:dy P G ops t' O' rc=true/\cR P G ops n l t' O' Q):cR P G ops n ((i,rc)::l) t O Q:=by
 obtain⟨hs,K,e,u,z,h1,A⟩:=h;refine⟨K,e,u,z,fun d k hk=>?_,A⟩
 show(match ops[i]? with
  | some o=>iy P G (eI P G k) false ops n o t O (fun t' O'=>bif dy P G ops t' O' rc then ki P G (eI P G k) ops n d l t' O' else .err 86)
  | none=>.err 87)=_
 grind [iy,lf]
theorem aT:dy P G ops t O []=true:=rfl
theorem bj {l:List Nat} (h:kF P G ops t O j=true) (hl:dy P G ops t O l=true):dy P G ops t O (j::l)=true:=by
 grind [dy]
theorem bx {k:Nat} {v:V} (hi:ops[i]? =some o) (hw:bR ops t o=some true) (hd:o.dst=some k) (hg:t.get k=some v) (hk:kindOf P o.op= .read) (h:eo P G (bI G t) O o.op= .val v O) (hb:dQ v v=true):kF P G ops t O i=true:=by
 have hr:gE P (bI G t) O o.op=some v:=by
  grind [eo]
 unfold kF
 simp_all
theorem oD {k b:Nat} (hi:ops[i]? =some o) (hw:bR ops t o=some true) (hd:o.dst=some k) (hg:t.get k=some (.ptr b 0)) (hk:kindOf P o.op= .alloc) (ha:fP P (bI G t) o.op=some (.row cs e false,.ptr)) (hm:O.m.get b=some (.row cs e false)) (hb:dQ.beqL cs cs=true):kF P G ops t O i=true:=by
 unfold kF
 simp_all
theorem fe (k:IntKind) (n:Int):dQ.iK (.int k n) (.int k n)=true:=by
 show(uE k k && F n n)=true;rw[cK];cases k<;>simp[uE]
theorem bO.iK {α:Type} {K:KP} {m:Nat} {R:α->List V->Prop} {l:List α} {v:V} (h:bO K m R l v):dQ.iK v v=true:=by
 rcases h with ⟨_,rfl⟩ | ⟨b,off,c,cells,e,ro,rfl,u,_⟩
 ·rfl
 show(dQ.beqP b b && Nat.beq off off && Nat.beq l.length l.length && dQ.beqC c c)=true;have hp:dQ.beqP b b=true:=Nat.beq_refl b
 have d:dQ.beqC c c=true:=by
  rcases u with rfl | ⟨n,rfl,_⟩
  ·exact Nat.beq_refl m
  exact Nat.beq_refl n
 simp[hp,d]
theorem gf:dQ.beqL [] []=true:=rfl
theorem cP {v:V} (h:dQ.iK v v=true) (hs:dQ.beqL vs vs=true):dQ.beqL (v::vs) (v::vs)=true:=by
 grind [dQ.beqL]
theorem gT (h:dQ.beqL vs vs=true):dQ (.agg vs) (.agg vs)=true:=h
theorem e8 {c:Bool} {t':Bool->PT V} (d:ops[i]? =some o) (hw:bR ops t o=some true) (hv:eo P G (bI G t) O o.op= .val (.bool c) O) (hp:∀b,dE t n o.dst (.bool b)=some (t' b))
  (h1:c=true->cR P G ops n l (t' true) O Q) (h0:c=false->cR P G ops n l (t' false) O Q):cR P G ops n ((i,[])::l) t O Q:=by
 refine ah d hw hv (hp c) ?_;cases c with
 | true=>exact h1 Z
 | false=>exact h0 Z
theorem pC (u:H O K L) {t':Nat->PT V} (d:ops[i]? =some o) (hw:bR ops t o=some true) (hv:eo P G (bI G t) O o.op= .val (.ptr O.next 0) (O.alloc ob)) (hp:∀b,dE t n o.dst (.ptr b 0)=some (t' b))
  (h:∀(O':aB) (b:Nat),H O' K ((b,ob)::L)->cR P G ops n l (t' b) O' Q):cR P G ops n ((i,[])::l) t O Q:=
 ah d hw hv (hp _) (h _ _<|u.alloc ob)
theorem gx (u:H O K L) {k c:Nat} {t':Nat->PT V} (d:ops[i]? =some o) (hw:bR ops t o=some true) (hv:eo P G (bI G t) O o.op= .val (.slice O.next 0 k (.known c)) (O.alloc ob)) (hp:∀b,dE t n o.dst (.slice b 0 k (.known c))=some (t' b))
  (h:∀(O':aB) (b:Nat),H O' K ((b,ob)::L)->cR P G ops n l (t' b) O' Q):cR P G ops n ((i,[])::l) t O Q:=
 ah d hw hv (hp _) (h _ _<|u.alloc ob)
theorem ia {b:Nat} {ob':cN} {t':PT V} (u:H O K ((b,ob)::L)) (d:ops[i]? =some o) (hw:bR ops t o=some true) (hv:eo P G (bI G t) O o.op= .skip (O.setObj b ob')) (hp:dE t n o.dst unit=some t')
  (h:∀O',H O' K ((b,ob')::L)->(dy P G ops t' O' rc=true/\cR P G ops n l t' O' Q)):cR P G ops n ((i,rc)::l) t O Q:=lG d hw hv hp (h _<|u.ui ob')
theorem nJ {b:Nat} {ob':cN} {x:Nat×cN} {t':PT V} (u:H O K (x::(b,ob)::L)) (d:ops[i]? =some o) (hw:bR ops t o=some true) (hv:eo P G (bI G t) O o.op= .skip (O.setObj b ob')) (hp:dE t n o.dst unit=some t')
  (h:∀O',H O' K (x::(b,ob')::L)->(dy P G ops t' O' rc=true/\cR P G ops n l t' O' Q)):cR P G ops n ((i,rc)::l) t O Q:=lG d hw hv hp (h _<|u.P9 ob')
theorem MP {b:Nat} {ob':cN} {x y:Nat×cN} {t':PT V} (u:H O K (x::y::(b,ob)::L)) (d:ops[i]? =some o) (hw:bR ops t o=some true) (hv:eo P G (bI G t) O o.op= .skip (O.setObj b ob')) (hp:dE t n o.dst unit=some t')
  (h:∀O',H O' K (x::y::(b,ob')::L)->(dy P G ops t' O' rc=true/\cR P G ops n l t' O' Q)):cR P G ops n ((i,rc)::l) t O Q:=lG d hw hv hp (h _<|u.Ui ob')
theorem cj {m:Nat} {v:V} {ix:Nat} {x:α} {ty e:TypeId} {k:IntKind} {t':V->PT V} (z:bO K m R la v) (hi:la[ix]? =some x) (d:ops[i]? =some o) (hw:bR ops t o=some true) (A:o.op= .indexAddr ty xo io)
  (B:P.underlying ty=some (.slice e)) (hj:(P.info? e).map (·.size)=some m) (hx:bI G t xo=some v) (u:bI G t io=some (.int k (.ofNat ix))) (hp:∀p,dE t n o.dst p=some (t' p))
  (h:∀p vs,fc K p vs->vs.length=m->R x vs->cR P G ops n l (t' p) O Q):cR P G ops n ((i,[])::l) t O Q:=by
 obtain⟨b,off,c,vs,rfl,hlt,h1,C,E⟩:=z.at hi;refine ah d hw ?_ (hp _)<|h _ vs h1 C E;rw[A];exact eH B hj hx u hlt
theorem dN {p:V} {s:TypeId} {fi k:Nat} {t':V->PT V} (d:fc K p vs) (u:ops[i]? =some o) (hw:bR ops t o=some true) (z:o.op= .fieldAddr s xo fi) (hx:bI G t xo=some p) (hk:og P s fi=some k) (hl:k<=vs.length) (hp:∀p,dE t n o.dst p=some (t' p))
  (h:∀p',fc K p' (vs.drop k)->cR P G ops n l (t' p') O Q):cR P G ops n ((i,[])::l) t O Q:=by
 obtain⟨b,off,cells,e,ro,rfl,A,h3,h4⟩:=d;refine ah u hw ?_ (hp _)<|h _ ⟨b,off+k,cells,e,ro,Z,A,by grind,?_⟩
 ·rw[z];exact ax hx hk
 grind [List.drop_take,zl_]
theorem ed {f:Nat} {args:List V} {t':V->PT V} {R:V->aB->Prop} (d:ops[i]? =some o) (hw:bR ops t o=some true) (hv:eo P G (bI G t) O o.op= .enter f args O) (hp:∀v,dE t n o.dst v=some (t' v))
  (u:bh P G f args O R) (h:∀v O',R v O'->(dy P G ops (t' v) O' rc=true/\cR P G ops n l (t' v) O' Q)):cR P G ops n ((i,rc)::l) t O Q:=by
 refine D1 d hw hv<|u.mono fun v O' hr=>?_
 simp_all
theorem Ia {f:Nat} {args:List V} {c:Bool} {t':V->PT V} (d:ops[i]? =some o) (hw:bR ops t o=some true) (hv:eo P G (bI G t) O o.op= .enter f args O) (hp:∀v,dE t n o.dst v=some (t' v))
  (u:bh P G f args O fun v O'=>v= .bool c/\H O' K L) (h1:c=true->∀O',H O' K L->(dy P G ops (t' (.bool true)) O' rc=true/\cR P G ops n l (t' (.bool true)) O' Q)) (h0:c=false->∀O',H O' K L->(dy P G ops (t' (.bool false)) O' rc=true/\cR P G ops n l (t' (.bool false)) O' Q)):cR P G ops n ((i,rc)::l) t O Q:=
 ed d hw hv hp u fun v O' ⟨hv,ar⟩=>by
  subst hv;cases c with
  | true=>exact h1 Z O' ar
  | false=>exact h0 Z O' ar
theorem eL {f:Nat} {args:List V} {t':V->PT V} (d:ops[i]? =some o) (hw:bR ops t o=some true) (hv:eo P G (bI G t) O o.op= .enter f args O) (hp:∀v,dE t n o.dst v=some (t' v))
  (z:bh P G f args O fun v O'=>v=u/\H O' K L) (h:∀O',H O' K L->(dy P G ops (t' u) O' rc=true/\cR P G ops n l (t' u) O' Q)):cR P G ops n ((i,rc)::l) t O Q:=
 ed d hw hv hp z fun v O' ⟨hv,ar⟩=>by simp_all
theorem aL {id:Nat} {l:List (Nat×List Nat)} (hf:uO P ops=true) (hl:lj P ops=l) (h:cR P G ops n l t O Q):Ev P G (.region id ops true) n t O Q:=by
 subst hl;exact xR hf h
end
end Go.Ev
namespace Go.Ev
variable [Env]
section
variable {P:Program} {G:Cx} {n:Nat} {t:PT V} {O:aB} {Q:Ex->PT V->aB->Prop} {ops:Array Oper} {o:Oper} {l:List Oper}
end
end Go.Ev
namespace Go.Ev
variable [Env]
variable {α:Type} {parts:Array (Nat×Operand)} {places:List (Nat×Nat)} {W:List Nat} {ca fi vs:List V} {la:List α} {io xo:Operand} {u:V} {ob:cN} {R:α->List V->Prop}
section
variable {P:Program} {G:Cx} {n:Nat} {O:aB} {Q:Ex->PT V->aB->Prop} {ops:Array Oper}
def G1 (n:Nat) (t:PT V) (d:Option Nat) (v:Option V):Option (PT V):=match v with | some v=>dE t n d v | none=>none
def KU (P:Program) (k:Bool) (o:BinOp) (ty:TypeId) (a b:Option V):Option V:=match a with | some a=>(match b with | some b=>pH P k o ty a b | none=>none) | none=>none
def EI (c a b:Option V):Option V:=match c with | some (.bool q)=>if q then a else b | _=>none
def RW (P:Program) (G:Cx) (t:PT V) (op:Op):Option V:=
 match op with
 | .move x=>bI G t x
 | .assign x=>bI G t x
 | .pick c a b=>EI (bI G t c) (bI G t a) (bI G t b)
 | .binOp o ty x y _=>KU P (AP x || AP y) o ty (bI G t x) (bI G t y)
 | .extract x i=>eh P (bI G t) (.extract x i)
 | .makeFunc x y z=>eh P (bI G t) (.makeFunc x y z)
 | .unOp x y z=>eh P (bI G t) (.unOp x y z)
 | .field x y z=>eh P (bI G t) (.field x y z)
 | _=>none
theorem yQ {t:PT V} {op:Op} {v:V} (h:RW P G t op=some v):eo P G (bI G t) O op= .val v O:=by
 unfold RW at h;split at h
 ·exact an h
 ·exact aq h
 ·unfold EI at h;split at h
  ·rename_i q u;exact aF u h
  cases h
 ·unfold KU at h;split at h
  ·rename_i a A;split at h
   ·rename_i b hb;exact ay A hb h
   cases h
  cases h
 ·exact bU Z h
 ·exact bU Z h
 ·exact bU Z h
 ·exact bU Z h
 cases h
def mN (P:Program) (G:Cx) (ops:Array Oper) (n:Nat) (t:PT V) (o:Oper):Option (PT V):=
 match bR ops t o with
 | some w=>bif w then G1 n t o.dst (RW P G t o.op) else dE t n o.dst unit
 | none=>none
theorem uq {t t':PT V} {o:Oper} {l:List Oper} (h:mN P G ops n t o=some t') (hh:bZ P G ops n l t' O Q):bZ P G ops n (o::l) t O Q:=by
 unfold mN at h;split at h
 ·rename_i w hw;cases w with
  | true=>
   simp only[cond_true] at h;unfold G1 at h;split at h
   ·rename_i v hv;exact J hw (yQ hv) h hh
   cases h
  | false=>exact ae hw h hh
 cases h
def quick (P:Program) (G:Cx) (ops:Array Oper) (n:Nat):Nat->List Oper->PT V->Option (List Oper×PT V)
 | 0,l,t=>some (l,t)
 | k+1,l,t=>match l with
  | o::l=>match mN P G ops n t o with
   | some t'=>quick P G ops n k l t'
   | none=>none
  | []=>none
theorem vQ (k:Nat) {l l':List Oper} {t t':PT V} (h:quick P G ops n k l t=some (l',t')) (hh:bZ P G ops n l' t' O Q):bZ P G ops n l t O Q:=by
 induction k generalizing l t with
 | zero=>simp only[quick,oJ_,Prod.mk.injEq] at h;obtain⟨rfl,rfl⟩:=h;exact hh
 | succ k ih=>
  unfold quick at h;split at h
  ·split at h
   ·rename_i t1 h1;exact uq h1<|ih h
   cases h
  cases h
def o0 (P:Program) (G:Cx) (ops:Array Oper) (n:Nat):Nat->List (Nat×List Nat)->PT V->Option (List (Nat×List Nat)×PT V)
 | 0,l,t=>some (l,t)
 | k+1,l,t=>match l with
  | (i,[])::l=>match ops[i]? with
   | some o=>match mN P G ops n t o with
    | some t'=>o0 P G ops n k l t'
    | none=>none
   | none=>none
  | _=>none
theorem uo {t t':PT V} {i:Nat} {o:Oper} {l:List (Nat×List Nat)} (hi:ops[i]? =some o) (h:mN P G ops n t o=some t') (hh:cR P G ops n l t' O Q):cR P G ops n ((i,[])::l) t O Q:=by
 unfold mN at h;split at h
 ·rename_i w hw;cases w with
  | true=>
   simp only[cond_true] at h;unfold G1 at h;split at h
   ·rename_i v hv;exact ah hi hw (yQ hv) h hh
   cases h
  | false=>exact au hi hw h hh
 cases h
theorem wQ (k:Nat) {l l':List (Nat×List Nat)} {t t':PT V} (h:o0 P G ops n k l t=some (l',t')) (hh:cR P G ops n l' t' O Q):cR P G ops n l t O Q:=by
 induction k generalizing l t with
 | zero=>simp only[o0,oJ_,Prod.mk.injEq] at h;obtain⟨rfl,rfl⟩:=h;exact hh
 | succ k ih=>
  unfold o0 at h;split at h
  ·split at h
   ·rename_i o u;split at h
    ·rename_i t1 h1;exact uo u h1<|ih h
    cases h
   cases h
  cases h
section
variable {ev:Operand->Option V} {K:KP} {L:Own}
theorem W3 (k:Nat) {s:TypeId} {x:Operand} {i:Nat} {b:Pos} {off:Nat} (hx:ev x=some (.ptr b off)) (hk:og P s i=some k:=by kernel_rfl):eo P G ev O (.fieldAddr s x i)= .val (.ptr b (off+k)) O:=ax hx hk
theorem W2 {c:Call} {f:Operand} {g:Nat} {args:List V} (u:c.callee= .value f) (hf:ev f=some (.func g fi ca)) (A:jv ev c.args.toList=some args) (B:lI P g=true:=by kernel_rfl):eo P G ev O (.call c)= .enter g (fi++(args++ca)) O:=aS u hf A B
theorem W4 {t:TypeId} {x:Operand} {b:Pos} {off:Nat} {cells:List V} {e:Nat} {ro:Bool} {v:V} (hx:ev x=some (.ptr b off)) (hb:O.m.get b=some (.row cells e ro)) (hv:nth cells off=some v) (u:dT P t=some none:=by kernel_rfl):eo P G ev O (.load t x)= .val v O:=aw hx hb u hv
theorem Qw {t:TypeId} {x:Operand} {b:Pos} {off n:Nat} {cells:List V} {e:Nat} {ro:Bool} (hx:ev x=some (.ptr b off)) (hb:O.m.get b=some (.row cells e ro)) (hv:(cells.drop off).take n=vs) (u:dT P t=some (some n):=by kernel_rfl) (hl:off+n<=cells.length:=by exact Nat.le_of_ble_eq_true Z):eo P G ev O (.load t x)= .val (.agg vs) O:=aW hx hb u hl hv
theorem Sx {t:TypeId} {m:Nat} {x y:Operand} {b:Pos} {off:Nat} {v:V} {cs cells cells':List V} {e:Nat} (hx:ev x=some (.ptr b off)) (hy:ev y=some v) (A:cG v=some cs) (hb:O.m.get b=some (.row cells e false)) (hl:cs.length=m) (u:cM cs=true) (B:dJ cs cells off=cells')
  (hj:(P.info? t).map (·.size)=some m:=by kernel_rfl) (hle:off+m<=cells.length:=by exact Nat.le_of_ble_eq_true Z):eo P G ev O (.store t x y)= .skip (O.setObj b (.row cells' e false)):=aO hx hy A hb hj hl hle u B
theorem W1 {t:TypeId} {zero cs:List V} (hf:jK (nth places) ev parts.toList zero=some cs) (hp:placesOf P t=some places:=by kernel_rfl) (hz:(fJ P t).bind cG=some zero:=by kernel_rfl) (hu:dT P t=some (some zero.length):=by kernel_rfl) (u:(structOf P t).isSome=true:=by kernel_rfl):eo P G ev O (.build t parts)= .val (.agg cs) O:=cE hp hz hu hf u
theorem W6 {e:TypeId} {cs:List V} (hz:(fJ P e).bind cG=some cs:=by kernel_rfl) (u:uf P e=false:=by kernel_rfl):eo P G ev O (.alloc e)= .val (.ptr O.next 0) (O.alloc (.row cs e false)):=cu hz u
theorem W5 {m:Nat} {l:List α} {c:Call} {t e:TypeId} {x:Operand} {v:V} (u:bO K m R l v) (A:c.callee= .builtin .len) (B:c.argTypes[0]? =some t) (C:c.args.toList= [x]) (hx:ev x=some v) (hu:P.underlying t=some (.slice e):=by kernel_rfl):eo P G ev O (.call c)= .val (.int .i64 (.ofNat l.length)) O:=a6 u A B C hu hx
theorem W7 {t:TypeId} {x:Operand} {p v:V} (u:H O K L) (hp:fc K p vs) (hx:ev x=some p) (hv:vs[0]? =some v) (A:dT P t=some none:=by kernel_rfl):eo P G ev O (.load t x)= .val v O:=aQ u hp hx A hv
theorem WV {n:Nat} {t:PT V} {o:Oper} {l:List Oper} {m:Nat} {v:V} {i:Nat} {x:α} {ty e:TypeId} {k:IntKind} {t':V->PT V} (A:bO K m R la v) (hi:la[i]? =some x) (hw:bR ops t o=some true) (B:o.op= .indexAddr ty xo io)
  (hx:bI G t xo=some v) (u:bI G t io=some (.int k (.ofNat i)))
  (h:∀p vs,fc K p vs->vs.length=m->R x vs->bZ P G ops n l (t' p) O Q) (C:P.underlying ty=some (.slice e):=by kernel_rfl) (hj:(P.info? e).map (·.size)=some m:=by kernel_rfl) (hp:∀p,dE t n o.dst p=some (t' p):=by exact fun _=>Z):bZ P G ops n (o::l) t O Q:=cA A hi hw B C hj hx u hp h
theorem WW {n i:Nat} {t:PT V} {o:Oper} {l:List (Nat×List Nat)} {m:Nat} {v:V} {ix:Nat} {x:α} {ty e:TypeId} {k:IntKind} {t':V->PT V} (B:bO K m R la v) (hi:la[ix]? =some x) (u:ops[i]? =some o) (hw:bR ops t o=some true) (C:o.op= .indexAddr ty xo io)
  (hx:bI G t xo=some v) (A:bI G t io=some (.int k (.ofNat ix)))
  (h:∀p vs,fc K p vs->vs.length=m->R x vs->cR P G ops n l (t' p) O Q) (E:P.underlying ty=some (.slice e):=by kernel_rfl) (hj:(P.info? e).map (·.size)=some m:=by kernel_rfl) (hp:∀p,dE t n o.dst p=some (t' p):=by exact fun _=>Z):cR P G ops n ((i,[])::l) t O Q:=cj B hi u hw C E hj hx A hp h
end
theorem aY.Vf {t t':PT V} {a b c d e f g i a' b' c' d' e' f' g' i':Nat} (hw:(Nat.blt a 256 && (Nat.blt b 256 && (Nat.blt c 256 && Nat.blt d 256)))=true) (u:(Nat.blt e 256 && (Nat.blt f 256 && (Nat.blt g 256 && Nat.blt i 256)))=true) (A:(Nat.blt a' 256 && (Nat.blt b' 256 && (Nat.blt c' 256 && Nat.blt d' 256)))=true) (B:(Nat.blt e' 256 && (Nat.blt f' 256 && (Nat.blt g' 256 && Nat.blt i' 256)))=true) (h:aY (a::b::c::d::e::f::g::i::a'::b'::c'::d'::e'::f'::g'::i'::W) t t'):
  ∃C E I M N R S T X u2 u3 u4 u5 u6 u7 u8,aY W ((((((((((((((((t.put C a).put E b).put I c).put M d).put N e).put R f).put S g).put T i).put X a').put u2 b').put u3 c').put u4 d').put u5 e').put u6 f').put u7 g').put u8 i') t':=by
 obtain⟨C,E,I,M,N,R,S,T,h⟩:=h.bP hw u;obtain⟨X,u2,u3,u4,u5,u6,u7,u8,h⟩:=h.bP A B;exact⟨C,E,I,M,N,R,S,T,X,u2,u3,u4,u5,u6,u7,u8,h⟩
theorem lb {a b:Nat} (h:Nat.ble a b=true):a<=b:=Nat.le_of_ble_eq_true h
theorem nT {b:Code} {t:PT V} {Q:Ex->PT V->aB->Prop} (h:Ev P G b n t O Q):bZ P G ops n [] t O (dF P G n b Q):=af (ad h)
theorem nS {id:Nat} {os:Array Oper} {b:Code} {t:PT V} {Q:Ex->PT V->aB->Prop} (hd:mu os.toList=false) (h:bZ P G os n os.toList t O (dF P G n b Q)):bZ P G ops n [] t O (dF P G n (.seq (.region id os false) b) Q):=af (ad<|al<|ai hd h)
theorem W8 {K:KP} {L:Own} {ev:Operand->Option V} {t:TypeId} {x:Operand} {p:V} {n:Nat} (u:H O K L) (hp:fc K p vs) (hx:ev x=some p) (hv:vs.length=n) (A:dT P t=some (some n):=by kernel_rfl):eo P G ev O (.load t x)= .val (.agg vs) O:=bW u hp hx A hv
theorem kv {K:KP} {L:Own} {n:Nat} {t:PT V} {o:Oper} {l:List Oper} {f:Nat} {args:List V} {t':V->PT V} (hw:bR ops t o=some true) (hv:eo P G (bI G t) O o.op= .enter f args O)
  (A:bh P G f args O fun v O'=>v=u/\H O' K L) (h:∀O',H O' K L->bZ P G ops n l (t' u) O' Q) (hp:∀v,dE t n o.dst v=some (t' v):=by exact fun _=>Z):bZ P G ops n (o::l) t O Q:=bJ hw hv hp A h
theorem kp {K:KP} {L:Own} {n:Nat} {t:PT V} {o:Oper} {l:List Oper} (u:H O K L) {t':Nat->PT V} (hw:bR ops t o=some true) (hv:eo P G (bI G t) O o.op= .val (.ptr O.next 0) (O.alloc ob))
  (h:∀(O':aB) (b:Nat),H O' K ((b,ob)::L)->bZ P G ops n l (t' b) O' Q) (hp:∀b,dE t n o.dst (.ptr b 0)=some (t' b):=by exact fun _=>Z):bZ P G ops n (o::l) t O Q:=bA u hw hv hp h
abbrev D:V:=.int .i64 0
theorem oP {t t':PT V} {w:Nat} {o:Option V} (hw:(W.elem w && Nat.blt w 256)=true) (h:aY W t t'):aY W t (t'.put o w):=h.put hw
theorem oR (W:List Nat) (t:PT V):aY W t t:=.refl W t
theorem ct (a b:α):(bif true then a else b)=a:=rfl
theorem cf (a b:α):(bif false then a else b)=b:=rfl
theorem cI {a b:Int} (h:a=b):some (V.int .i64 a)=some (V.int .i64 b):=congrArg (fun z=>some (V.int .i64 z)) h
theorem cB {a b:Bool} (h:a=b):V.bool a=V.bool b:=congrArg V.bool h
theorem cJ {a b:Int} (h:a=b):V.int .i64 a=V.int .i64 b:=congrArg (V.int .i64) h
theorem H.g0 {K:KP} {L:Own} {b:Nat} {o:cN} (h:H O K ((b,o)::L)):O.m.get b=some o:=h.get 0 Z
theorem H.g1 {K:KP} {L:Own} {e:Nat×cN} {b:Nat} {o:cN} (h:H O K (e::(b,o)::L)):O.m.get b=some o:=h.get 1 Z
theorem ky {n:Nat} {t:PT V} {o:Oper} {l:List Oper} {c:Bool} {t':Bool->PT V} (hw:bR ops t o=some true) (hv:eo P G (bI G t) O o.op= .val (.bool c) O)
  (h1:c=true->bZ P G ops n l (t' true) O Q) (h0:c=false->bZ P G ops n l (t' false) O Q) (hp:∀b,dE t n o.dst (.bool b)=some (t' b):=by exact fun _=>Z):bZ P G ops n (o::l) t O Q:=a8 hw hv hp h1 h0
end
section
variable {P:Program} {G:Cx} {O:aB} {Q:Ex->PT V->aB->Prop} {ops:Array Oper} {ev:Operand->Option V} {K:KP} {L:Own} {t:TypeId} {x y:Operand} {p:Pos} {i:Nat} {cells cs:List V} {e:Nat} {ro:Bool} {v a b c d f g:V}
theorem Xc (hx:ev x=some (.ptr p i)) (hb:O.m.get p=some (.row cells e ro)) (hv:(cells.drop i).take 2= [a,b]) (u:dT P t=some (some 2):=by kernel_rfl) (hl:i+2<=cells.length:=by exact Nat.le_of_ble_eq_true Z):eo P G ev O (.load t x)= .val (.agg [a,b]) O:=Qw hx hb hv u hl
theorem Xd (hx:ev x=some (.ptr p i)) (hb:O.m.get p=some (.row cells e ro)) (hv:(cells.drop i).take 4= [a,b,c,d]) (u:dT P t=some (some 4):=by kernel_rfl) (hl:i+4<=cells.length:=by exact Nat.le_of_ble_eq_true Z):eo P G ev O (.load t x)= .val (.agg [a,b,c,d]) O:=Qw hx hb hv u hl
theorem Xe (hx:ev x=some (.ptr p i)) (hb:O.m.get p=some (.row cells e ro)) (hv:(cells.drop i).take 5= [a,b,c,d,f]) (u:dT P t=some (some 5):=by kernel_rfl) (hl:i+5<=cells.length:=by exact Nat.le_of_ble_eq_true Z):eo P G ev O (.load t x)= .val (.agg [a,b,c,d,f]) O:=Qw hx hb hv u hl
theorem Xf (hx:ev x=some (.ptr p i)) (hb:O.m.get p=some (.row cells e ro)) (hv:(cells.drop i).take 6= [a,b,c,d,f,g]) (u:dT P t=some (some 6):=by kernel_rfl) (hl:i+6<=cells.length:=by exact Nat.le_of_ble_eq_true Z):eo P G ev O (.load t x)= .val (.agg [a,b,c,d,f,g]) O:=Qw hx hb hv u hl
theorem W9 (hx:ev x=some (.ptr p i)) (hy:ev y=some v) (u:cG v=some cs) (hb:O.m.get p=some (.row cells e false)) (A:dJ cs cells i= [a,b]) (hl:cs.length=2:=by rfl) (hf:cM cs=true:=by rfl) (hj:(P.info? t).map (·.size)=some 2:=by kernel_rfl) (hle:i+2<=cells.length:=by exact Nat.le_of_ble_eq_true Z):eo P G ev O (.store t x y)= .skip (O.setObj p (.row [a,b] e false)):=Sx hx hy u hb hl hf A hj hle
theorem Xa (hx:ev x=some (.ptr p i)) (hy:ev y=some v) (u:cG v=some cs) (hb:O.m.get p=some (.row cells e false)) (A:dJ cs cells i= [a,b,c]) (hl:cs.length=3:=by rfl) (hf:cM cs=true:=by rfl) (hj:(P.info? t).map (·.size)=some 3:=by kernel_rfl) (hle:i+3<=cells.length:=by exact Nat.le_of_ble_eq_true Z):eo P G ev O (.store t x y)= .skip (O.setObj p (.row [a,b,c] e false)):=Sx hx hy u hb hl hf A hj hle
theorem Xb (hx:ev x=some (.ptr p i)) (hy:ev y=some v) (u:cG v=some cs) (hb:O.m.get p=some (.row cells e false)) (A:dJ cs cells i= [a,b,c,d,f]) (hl:cs.length=5:=by rfl) (hf:cM cs=true:=by rfl) (hj:(P.info? t).map (·.size)=some 5:=by kernel_rfl) (hle:i+5<=cells.length:=by exact Nat.le_of_ble_eq_true Z):eo P G ev O (.store t x y)= .skip (O.setObj p (.row [a,b,c,d,f] e false)):=Sx hx hy u hb hl hf A hj hle
variable {n q:Nat} {z:PT V} {o:Oper} {l:List Oper} {args:List V}
theorem kw {h':V->PT V} {R:V->aB->Prop} (hv:eo P G (bI G z) O o.op= .enter q args O) (u:bh P G q args O R) (h:∀v O',R v O'->bZ P G ops n l (h' v) O' Q) (hw:bR ops z o=some true:=by rfl) (hp:∀v,dE z n o.dst v=some (h' v):=by exact fun _=>Z):bZ P G ops n (o::l) z O Q:=cq hw hv hp u h
theorem kx {h':V->PT V} (hv:eo P G (bI G z) O o.op= .enter q args O) (A:bh P G q args O fun v O'=>v=u/\H O' K L) (h:∀O',H O' K L->bZ P G ops n l (h' u) O' Q) (hw:bR ops z o=some true:=by rfl) (hp:∀v,dE z n o.dst v=some (h' v):=by exact fun _=>Z):bZ P G ops n (o::l) z O Q:=bJ hw hv hp A h
theorem ks {m:cN} {m':cN} {h':PT V} (u:H O K ((q,m)::L)) (hv:eo P G (bI G z) O o.op= .skip (O.setObj q m')) (h:∀O',H O' K ((q,m')::L)->bZ P G ops n l h' O' Q) (hw:bR ops z o=some true:=by rfl) (hp:dE z n o.dst unit=some h':=by rfl):bZ P G ops n (o::l) z O Q:=bT u hw hv hp h
theorem kb {m:cN} {h':Nat->PT V} (u:H O K L) (hv:eo P G (bI G z) O o.op= .val (.ptr O.next 0) (O.alloc m)) (h:∀(O':aB) (b:Nat),H O' K ((b,m)::L)->bZ P G ops n l (h' b) O' Q) (hw:bR ops z o=some true:=by rfl) (hp:∀b,dE z n o.dst (.ptr b 0)=some (h' b):=by exact fun _=>Z):bZ P G ops n (o::l) z O Q:=bA u hw hv hp h
end
abbrev nI (n:Nat):V:=.int .i64 (.ofNat n)
abbrev EC:=bh Go.Proofs.Tryz.prog
abbrev Ca (G:Cx) (K:KP) (L:Own) (f:Nat) (a:List V) (O:aB) (x:V):Prop:=EC G f a O fun v O'=>v=x/\H O' K L
section
variable {P:Program} {G:Cx} {n:Nat} {t:PT V} {O:aB} {Q:Ex->PT V->aB->Prop}
def S0 (W:List Nat) (t:PT V) (I:PT V->aB->Prop) (e:Ex) (t':PT V) (O':aB):Prop:=e= .normal/\aY W t t'/\I t' O'
theorem Cb {a b:Code} (W:List Nat) (I:PT V->aB->Prop) (h1:Ev P G a n t O (S0 W t I)) (d:∀t' O',aY W t t'->I t' O'->Ev P G b n t' O' Q):Ev P G (.seq a b) n t O Q:=
 al (h1.mono fun e t' O' h=>by obtain⟨rfl,u,z⟩:=h;exact d t' O' u z)
end
variable {K:KP} {L:Own}
section
variable {P:Program} {G:Cx} {n:Nat} {O:aB} {Q:Ex->PT V->aB->Prop}
inductive Cf where
 | ops (os:Array Oper) (l:List Oper)
 | lj (os:Array Oper) (l:List (Nat×List Nat))
 | code (c:Code)
 | out (e:Ex)
inductive Fm where
 | seq (b:Code)
 | dz (id:Nat)
 | Uz (I:Nat->PT V->aB->Prop) (j:Nat)
def QS (P:Program) (G:Cx) (n:Nat) (Q:Ex->PT V->aB->Prop):List Fm->Ex->PT V->aB->Prop
 | []=>Q
 | .seq b::r=>dF P G n b (QS P G n Q r)
 | .dz id::r=>jb id (QS P G n Q r)
 | .Uz I j::r=>yF I j (QS P G n Q r)
def At (P:Program) (G:Cx) (n:Nat) (O:aB) (Q:Ex->PT V->aB->Prop) (c:Cf) (fs:List Fm) (t:PT V):Prop:=
 match c with
 | .ops os l=>bZ P G os n l t O (QS P G n Q fs)
 | .lj os l=>cR P G os n l t O (QS P G n Q fs)
 | .code c=>Ev P G c n t O (QS P G n Q fs)
 | .out e=>QS P G n Q fs e t O
def Hh (P:Program) (G:Cx) (n:Nat) (c:Code) (fs:List Fm) (t:PT V):Option (Cf×List Fm×PT V):=
 match c with
 | .seq a b=>some (.code a,.seq b::fs,t)
 | .region _ os false=>bif mu os.toList then none else some (.ops os os.toList,fs,t)
 | .cond x a b=>match bI G t x with
  | some (.bool true)=>some (.code a,fs,t)
  | some (.bool false)=>some (.code b,fs,t)
  | _=>none
 | .block id b=>some (.code b,.dz id::fs,t)
 | .skip=>some (.out .normal,fs,t)
 | .label _=>some (.out .normal,fs,t)
 | .exit id=>some (.out (.exit id),fs,t)
 | .ret=>some (.out .ret,fs,t)
 | _=>none
def CU (P:Program) (G:Cx) (n:Nat) (c:Cf) (fs:List Fm) (t:PT V):Option (Cf×List Fm×PT V):=
 match c with
 | .ops _ []=>some (.out .normal,fs,t)
 | .ops os (o::l)=>match mN P G os n t o with
  | some t'=>some (.ops os l,fs,t')
  | none=>none
 | .lj _ []=>some (.out .normal,fs,t)
 | .lj os ((i,[])::l)=>match os[i]? with
  | some o=>match mN P G os n t o with
   | some t'=>some (.lj os l,fs,t')
   | none=>none
  | none=>none
 | .lj _ ((_,_::_)::_)=>none
 | .code c=>Hh P G n c fs t
 | .out .normal=>match fs with
  | .seq b::r=>some (.code b,r,t)
  | .dz _::r=>some (.out .normal,r,t)
  | _=>none
 | .out (.exit j)=>match fs with
  | .seq _::r=>some (.out (.exit j),r,t)
  | .dz id::r=>bif Nat.beq j id then some (.out .normal,r,t) else some (.out (.exit j),r,t)
  | .Uz _ _::r=>some (.out (.exit j),r,t)
  | []=>none
 | .out .ret=>match fs with
  | .seq _::r=>some (.out .ret,r,t)
  | .dz _::r=>some (.out .ret,r,t)
  | .Uz _ _::r=>some (.out .ret,r,t)
  | []=>none
 | .out _=>none
theorem Kk {c:Code} {c':Cf} {fs fs':List Fm} {t t':PT V} (h:Hh P G n c fs t=some (c',fs',t')) (hh:At P G n O Q c' fs' t'):Ev P G c n t O (QS P G n Q fs):=by
 unfold Hh at h;split at h
 ·cases h;exact al hh
 ·rename_i os;cases hd:mu os.toList with
  | true=>rw[hd] at h;cases h
  | false=>rw[hd] at h;cases h;exact ai hd hh
 ·split at h
  ·rename_i hx;cases h;exact br hx hh
  ·rename_i hx;cases h;exact bB hx hh
  cases h
 ·cases h;exact aK hh
 ·cases h;exact aI hh
 ·cases h;exact D4 hh
 ·cases h;exact bn hh
 ·cases h;exact aJ hh
 cases h
theorem Bh {c c':Cf} {fs fs':List Fm} {t t':PT V} (h:CU P G n c fs t=some (c',fs',t')) (hh:At P G n O Q c' fs' t'):At P G n O Q c fs t:=by
 unfold CU at h;split at h
 ·cases h;exact af hh
 ·split at h
  ·rename_i d;cases h;exact uq d hh
  cases h
 ·cases h;exact aV hh
 ·split at h
  ·rename_i u;split at h
   ·rename_i d;cases h;exact uo u d hh
   cases h
  cases h
 ·cases h
 ·exact Kk h hh
 ·split at h
  ·cases h;exact hh
  ·cases h;exact hh
  cases h
 ·rename_i j;split at h
  ·cases h;exact hh
  ·rename_i id r;cases hj:Nat.beq j id with
   | true=>
    rw[hj] at h;cases h;have:=nB hj;subst this;exact aN hh
   | false=>rw[hj] at h;cases h;exact jH hj hh
  ·cases h;exact hh
  cases h
 ·split at h
  ·cases h;exact hh
  ·cases h;exact hh
  ·cases h;exact hh
  cases h
 cases h
def iA (P:Program) (G:Cx) (n:Nat):Nat->Cf->List Fm->PT V->Option (Cf×List Fm×PT V)
 | 0,c,fs,t=>some (c,fs,t)
 | k+1,c,fs,t=>match CU P G n c fs t with
  | some (c',fs',t')=>iA P G n k c' fs' t'
  | none=>none
theorem dZ:∀(k:Nat) {c c':Cf} {fs fs':List Fm} {t t':PT V},iA P G n k c fs t=some (c',fs',t')->At P G n O Q c' fs' t'->At P G n O Q c fs t
 | 0,_,_,_,_,_,_,h,hh=>by cases h;exact hh
 | k+1,_,_,_,_,_,_,h,hh=>by
  unfold iA at h;split at h
  ·rename_i d;exact Bh d<|dZ k h hh
  cases h
inductive Cd where
 | fa (s i k:Nat)
 | ag (t:Nat)
def lC (P:Program):List Cd->Bool
 | []=>true
 | .fa s i k::r=>match og P s i with
  | some q=>bif Nat.beq q k then lC P r else false
  | none=>false
 | .ag t::r=>match dT P t with
  | some none=>lC P r
  | _=>false
def S4 (P:Program) (G:Cx) (n:Nat) (os:Array Oper) (t:PT V) (o:Oper) (s i k:Nat) (x:Operand):Option (PT V):=
 match bR os t o with
 | some true=>match bI G t x with
  | some (.ptr b off)=>dE t n o.dst (.ptr b (off+k))
  | _=>none
 | _=>none
def Tk (P:Program) (G:Cx) (n:Nat) (os:Array Oper) (t:PT V) (o:Oper) (x:Operand) (b':Nat) (cells:List V):Option (PT V×Nat):=
 match bR os t o with
 | some true=>match bI G t x with
  | some (.ptr b off)=>match nth cells off with
   | some v=>match dE t n o.dst v with
    | some t'=>some (t',b)
    | none=>none
   | none=>none
  | _=>none
 | _=>none
def UB (P:Program) (G:Cx) (n:Nat) (L:Own) (os:Array Oper) (t:PT V) (o:Oper) (hs:List Nat) (cs:List Cd) (e1 e2:List Nat):Option (PT V×List Nat×List Cd×List Nat×List Nat):=
 match o.op,hs with
 | .fieldAddr s x i,k::hs=>match S4 P G n os t o s i k x with
  | some t'=>some (t',hs,.fa s i k::cs,e1,e2)
  | none=>none
 | .load ty x,k::hs=>match nth L k with
  | some (b',.row cells _ _)=>match Tk P G n os t o x b' cells with
   | some (t',b)=>some (t',hs,.ag ty::cs,b::e1,b'::e2)
   | none=>none
  | _=>none
 | _,_=>none
def WQ (o:Oper):Bool:=match o.op with
 | .fieldAddr ..=>true
 | .load ..=>true
 | _=>false
def Wb (os:Array Oper) (t:PT V) (o:Oper):Bool:=match bR os t o with
 | some true=>WQ o
 | _=>false
def S8 (c:Cf) (t:PT V):Bool:=match c with
 | .ops os (o::_)=>Wb os t o
 | .lj os ((i,[])::_)=>match os[i]? with
  | some o=>Wb os t o
  | none=>false
 | _=>false
def NI (P:Program) (G:Cx) (n:Nat) (L:Own) (c:Cf) (t:PT V) (hs:List Nat) (cs:List Cd) (e1 e2:List Nat):Option (Cf×PT V×List Nat×List Cd×List Nat×List Nat):=
 match c with
 | .ops os (o::l)=>match UB P G n L os t o hs cs e1 e2 with
  | some (t',hs,cs,e1,e2)=>some (.ops os l,t',hs,cs,e1,e2)
  | none=>none
 | .lj os ((i,[])::l)=>match os[i]? with
  | some o=>match UB P G n L os t o hs cs e1 e2 with
   | some (t',hs,cs,e1,e2)=>some (.lj os l,t',hs,cs,e1,e2)
   | none=>none
  | none=>none
 | _=>none
def uc (P:Program) (G:Cx) (n:Nat) (L:Own):Nat->Cf->List Fm->PT V->List Nat->List Cd->List Nat->List Nat->Option (Cf×List Fm×PT V×List Cd×List Nat×List Nat)
 | 0,c,fs,t,_,cs,e1,e2=>some (c,fs,t,cs,e1,e2)
 | k+1,c,fs,t,hs,cs,e1,e2=>match S8 c t with
  | true=>match NI P G n L c t hs cs e1 e2 with
   | some (c',t',hs',cs',e1',e2')=>uc P G n L k c' fs t' hs' cs' e1' e2'
   | none=>none
  | false=>match CU P G n c fs t with
   | some (c',fs',t')=>uc P G n L k c' fs' t' hs cs e1 e2
   | none=>none
theorem OJ {s i k:Nat} {r:List Cd} (h:lC P (.fa s i k::r)=true):og P s i=some k/\lC P r=true:=by
 unfold lC at h;split at h
 ·rename_i q hq;cases hk:Nat.beq q k with
  | true=>rw[hk] at h;exact⟨by rw[hq,nB hk],h⟩
  | false=>rw[hk] at h;cases h
 cases h
theorem OI {t:Nat} {r:List Cd} (h:lC P (.ag t::r)=true):dT P t=some none/\lC P r=true:=by
 unfold lC at h;split at h
 ·rename_i d;exact⟨d,h⟩
 cases h
theorem MC (ar:H O K L) {os:Array Oper} {t t':PT V} {o:Oper} {M z:List Nat} {cs cs':List Cd} {e1 e2 d u:List Nat} (h:UB P G n L os t o M cs e1 e2=some (t',z,cs',d,u)) (E:lC P cs'=true) (he:d=u):
  (lC P cs=true/\e1=e2)/\bR os t o=some true/\∃v,eo P G (bI G t) O o.op= .val v O/\dE t n o.dst v=some t':=by
 unfold UB at h;split at h
 ·rename_i s x i k A B;split at h
  ·rename_i N hf;cases h;obtain⟨h1,C⟩:=OJ E;unfold S4 at hf;split at hf
   ·rename_i hw;split at hf
    ·rename_i b off hx;exact⟨⟨C,he⟩,hw,_,by rw[B];exact ax hx h1,hf⟩
    cases hf
   cases hf
  cases h
 ·rename_i ty x k A B;split at h
  ·rename_i b' cells ee ro I;split at h
   ·rename_i N b hf;cases h;obtain⟨h1,C⟩:=OI E;have hb:b=b':=(List.cons.inj he).1;have he':=(List.cons.inj he).2;unfold Tk at hf;split at hf
    ·rename_i hw;split at hf
     ·rename_i b2 off hx;split at hf
      ·rename_i v hv;split at hf
       ·rename_i t2 hp;cases hf;subst hb;rw[fY] at I;exact⟨⟨C,he'⟩,hw,v,by rw[B];exact aw hx (ar.get k I) h1 hv,hp⟩
       cases hf
      cases hf
     cases hf
    cases hf
   cases h
  cases h
 cases h
theorem NJ (ar:H O K L) {c c':Cf} {fs:List Fm} {t t':PT V} {A z:List Nat} {cs cs':List Cd} {e1 e2 d u:List Nat} (h:NI P G n L c t A cs e1 e2=some (c',t',z,cs',d,u)) (hk:lC P cs'=true) (he:d=u) (hh:At P G n O Q c' fs t'):(lC P cs=true/\e1=e2)/\At P G n O Q c fs t:=by
 unfold NI at h;split at h
 ·split at h
  ·rename_i hy;cases h;obtain⟨h1,hw,v,hv,hp⟩:=MC ar hy hk he;exact⟨h1,J hw hv hp hh⟩
  cases h
 ·split at h
  ·rename_i o B;split at h
   ·rename_i hy;cases h;obtain⟨h1,hw,v,hv,hp⟩:=MC ar hy hk he;exact⟨h1,ah B hw hv hp hh⟩
   cases h
  cases h
 cases h
theorem iY {K:KP} {L:Own} (ar:H O K L):∀(k:Nat) {c c':Cf} {fs fs':List Fm} {t t':PT V} {d:List Nat} {cs cs':List Cd} {e1 e2 u z:List Nat},uc P G n L k c fs t d cs e1 e2=some (c',fs',t',cs',u,z)->lC P cs'=true->u=z->At P G n O Q c' fs' t'->(lC P cs=true/\e1=e2)/\At P G n O Q c fs t
 | 0,_,_,_,_,_,_,_,_,_,_,_,_,_,h,hk,he,hh=>by cases h;exact⟨⟨hk,he⟩,hh⟩
 | k+1,_,_,_,_,_,_,_,_,_,_,_,_,_,h,hk,he,hh=>by
  unfold uc at h;split at h
  ·split at h
   ·rename_i d;obtain⟨⟨h1,B⟩,A⟩:=iY ar k h hk he hh;exact NJ ar d h1 B A
   cases h
  split at h
  ·rename_i d;obtain⟨h1,A⟩:=iY ar k h hk he hh;exact⟨h1,Bh d A⟩
  cases h
end
theorem aY.Ve {W:List Nat} {t t':PT V} {w:Nat} (hw:Nat.blt w 256=true) (h:aY (w::W) t t'):aY W (t.put (t'.get w) w) t':=by
 rw[tA] at hw;obtain⟨h1,d,u⟩:=h;obtain⟨s,m,l⟩:=t;rw[PT.wg _ _ _ _ hw,PT.r9 _ hw];refine⟨h1,d,fun k hk hn=>?_⟩;show _=kS (sZ s w _) k;rw[mm _ _ _ _ hw hk];split
 ·rename_i e;rw[e]
 rename_i e;refine u k hk ?_;rw[List.elem_cons,hn];have:(k == w)=false:=by simpa using e
 rw[this]
def sj (o:Nat->Option V):PT V->List Nat->PT V
 | t,[]=>t
 | t,a::r=>sj o (t.put (o a) a) r
def z6 (o:Nat->Option V):List (Nat×V)->Nat->Option V
 | [],a=>o a
 | (k,v)::r,a=>bif Nat.beq a k then some v else z6 o r a
theorem Bo {o:Nat->Option V}:∀{ks:List (Nat×V)},(∀e∈ks,o e.1=some e.2)->z6 o ks=o
 | [],_=>rfl
 | (k,v)::r,h=>funext fun a=>by
  show(bif Nat.beq a k then some v else z6 o r a)=o a;cases hb:Nat.beq a k with
  | true=>rw[nB hb];exact(h (k,v) (.head _)).symm
  | false=>rw[Bo fun e he=>h e (.tail _ he)];rfl
def okW (W:List Nat):Bool:=W.all fun k=>Nat.blt k 256
theorem aY.fn {t':PT V}:∀{W:List Nat} {t:PT V},okW W=true->aY W t t'->t'=sj (fun k=>t'.get k) t W
 | [],_,_,h=>h.nil
 | a::r,t,hw,h=>by
  have hw:(Nat.blt a 256 && okW r)=true:=hw;rw[bA_] at hw;exact(aY.fn (W:=r) hw.2 (h.Ve hw.1):)
section
variable {W:List Nat} {t t':PT V}
theorem aY.qs {ks:List (Nat×V)} (h:aY W t t') (hk:∀e∈ks,t'.get e.1=some e.2) (hw:okW W=true):∃o,t'=sj (z6 o ks) t W:=
 ⟨fun k=>t'.get k,(aY.fn hw h).trans<|congrArg (fun o=>sj o t W) (Bo hk).symm⟩
variable {k1 k2 k3 k4 k5 k6:Nat} {v1 v2 v3 v4 v5 v6:V} (h:aY W t t')
include h
theorem aY.q0 (hw:okW W=true):∃o,t'=sj (z6 o []) t W:=h.qs (ks:=[]) (fun e he=>by cases he) hw
theorem aY.q1 (h1:t'.get k1=some v1) (hw:okW W=true):∃o,t'=sj (z6 o [(k1,v1)]) t W:=h.qs (fun e he=>by simp at he;subst he;exact h1) hw
theorem aY.q2 (h1:t'.get k1=some v1) (d:t'.get k2=some v2) (hw:okW W=true):∃o,t'=sj (z6 o [(k1,v1),(k2,v2)]) t W:=h.qs (fun e he=>by simp at he;rcases he with rfl | rfl;exact h1;exact d) hw
theorem aY.q3 (h1:t'.get k1=some v1) (d:t'.get k2=some v2) (u:t'.get k3=some v3) (hw:okW W=true):∃o,t'=sj (z6 o [(k1,v1),(k2,v2),(k3,v3)]) t W:=h.qs (fun e he=>by simp at he;rcases he with rfl | rfl | rfl;exact h1;exact d;exact u) hw
theorem aY.q4 (h1:t'.get k1=some v1) (d:t'.get k2=some v2) (u:t'.get k3=some v3) (z:t'.get k4=some v4) (hw:okW W=true):∃o,t'=sj (z6 o [(k1,v1),(k2,v2),(k3,v3),(k4,v4)]) t W:=h.qs (fun e he=>by simp at he;rcases he with rfl | rfl | rfl | rfl;exact h1;exact d;exact u;exact z) hw
theorem aY.q5 (h1:t'.get k1=some v1) (d:t'.get k2=some v2) (u:t'.get k3=some v3) (z:t'.get k4=some v4) (h5:t'.get k5=some v5) (hw:okW W=true):∃o,t'=sj (z6 o [(k1,v1),(k2,v2),(k3,v3),(k4,v4),(k5,v5)]) t W:=h.qs (fun e he=>by simp at he;rcases he with rfl | rfl | rfl | rfl | rfl;exact h1;exact d;exact u;exact z;exact h5) hw
end
theorem oF {W:List Nat} {t t':PT V} (h:aY W t t':=by repeat (first | with_reducible exact aY.refl _ _ | refine aY.put Z ?_)):aY W t t':=h
def Rc (i:Nat) (t:PT V):List V->PT V
 | []=>t
 | a::r=>Rc (i+1) (t.put (some a) i) r
theorem V9 {P:Program} {G:Cx} (d:Plain G) {f:Nat} {fn:Func} {c:Code} {args:List V} {O:aB} {R:V->aB->Prop} (hf:P.funcs[f]? =some fn) (hb:fn.body=some c) (h:Ev P G c fn.ntmps (Rc 0 .leaf args) O (Ga P fn R))
  (u:rS fn.ntmps args=some (Rc 0 .leaf args):=by rfl) (hk:Nat.beq f L5=false:=by rfl) (hl:JS f=false:=by rfl) (z:NG f=false:=by rfl):bh P G f args O R:=a7 d hf hb u h hk hl z
def zp:List Nat->List (Nat×List Nat)
 | []=>[]
 | a::r=>(a,[])::zp r
def rg (a:Nat):Nat->List Nat
 | 0=>[]
 | n+1=>a::rg (a+1) n
variable {j z:Nat} {bI1:Nat->PT V->aB->Prop}
section
variable {P:Program} {G:Cx} {n:Nat} {O:aB} {Q:Ex->PT V->aB->Prop} {os os2:Array Oper} {l l2:List Oper} {lp lp2:List (Nat×List Nat)} {c c2:Code} {t t2:PT V} {K:KP} {L:Own} {hs:List Nat} {cs:List Cd} {e1 e2:List Nat}
theorem Wc (k:Nat) (h:iA P G n k (.code c) [] t=some (.code c2,[],t2)) (hh:Ev P G c2 n t2 O Q):Ev P G c n t O Q:=(dZ (Q:=Q) k h hh:)
theorem UD {d:Code} {u:Nat} (k:Nat) (h:iA P G n k (.code c) [] t=some (.code c2,[.dz u,.seq d],t2)) (hh:Ev P G c2 n t2 O (jb u<|dF P G n d Q)):Ev P G c n t O Q:=(dZ (Q:=Q) k h hh:)
theorem Vv {d:Code} (k:Nat) (h:iA P G n k (.code c) [] t=some (.code c2,[.seq d],t2)) (hh:Ev P G c2 n t2 O (dF P G n d Q)):Ev P G c n t O Q:=(dZ (Q:=Q) k h hh:)
theorem Wd (k:Nat) (h:iA P G n k (.code c) [] t=some (.out .normal,[],t2)) (hh:Q .normal t2 O):Ev P G c n t O Q:=(dZ (Q:=Q) k h hh:)
theorem We (k:Nat) (h:iA P G n k (.code c) [] t=some (.ops os2 l2,[],t2)) (hh:bZ P G os2 n l2 t2 O Q):Ev P G c n t O Q:=(dZ (Q:=Q) k h hh:)
theorem Vw {d:Code} (k:Nat) (h:iA P G n k (.code c) [] t=some (.ops os2 l2,[.seq d],t2)) (hh:bZ P G os2 n l2 t2 O (dF P G n d Q)):Ev P G c n t O Q:=(dZ (Q:=Q) k h hh:)
theorem UE {d u:Code} (k:Nat) (h:iA P G n k (.code c) [] t=some (.ops os2 l2,[.seq d,.seq u],t2)) (hh:bZ P G os2 n l2 t2 O (dF P G n d<|dF P G n u Q)):Ev P G c n t O Q:=(dZ (Q:=Q) k h hh:)
theorem Wf (k:Nat) (h:iA P G n k (.code c) [] t=some (.out .ret,[],t2)) (hh:Q .ret t2 O):Ev P G c n t O Q:=(dZ (Q:=Q) k h hh:)
theorem TC {d:Code} {u:Code} (k:Nat) (h:iA P G n k (.code c) [.seq d] t=some (.code c2,[.dz z,.seq u],t2)) (hh:Ev P G c2 n t2 O (jb z<|dF P G n u Q)):Ev P G c n t O (dF P G n d Q):=(dZ (Q:=Q) k h hh:)
theorem UF {d:Code} {u:Code} (k:Nat) (h:iA P G n k (.code c) [.seq d] t=some (.code c2,[.seq u],t2)) (hh:Ev P G c2 n t2 O (dF P G n u Q)):Ev P G c n t O (dF P G n d Q):=(dZ (Q:=Q) k h hh:)
theorem SE {d:Code} {u z:Code} {A:Nat} (k:Nat) (h:iA P G n k (.code c) [.seq d] t=some (.code c2,[.seq u,.dz A,.seq z],t2)) (hh:Ev P G c2 n t2 O (dF P G n u<|jb A<|dF P G n z Q)):Ev P G c n t O (dF P G n d Q):=(dZ (Q:=Q) k h hh:)
theorem UG {d:Code} {u:Code} (k:Nat) (h:iA P G n k (.code c) [.seq d] t=some (.ops os2 l2,[.seq u],t2)) (hh:bZ P G os2 n l2 t2 O (dF P G n u Q)):Ev P G c n t O (dF P G n d Q):=(dZ (Q:=Q) k h hh:)
theorem SF {d:Code} {u z:Code} {A:Nat} (k:Nat) (h:iA P G n k (.code c) [.seq d] t=some (.ops os2 l2,[.seq u,.dz A,.seq z],t2)) (hh:bZ P G os2 n l2 t2 O (dF P G n u<|jb A<|dF P G n z Q)):Ev P G c n t O (dF P G n d Q):=(dZ (Q:=Q) k h hh:)
theorem Vx {d:Code} (k:Nat) (h:iA P G n k (.code c) [.seq d] t=some (.out .ret,[],t2)) (hh:Q .ret t2 O):Ev P G c n t O (dF P G n d Q):=(dZ (Q:=Q) k h hh:)
theorem UH {d:Code} {u:Nat} (k:Nat) (h:iA P G n k (.code c) [.seq d,.Uz bI1 u] t=some (.out (.exit j),[],t2)) (hh:Q (.exit j) t2 O):Ev P G c n t O (dF P G n d<|yF bI1 u Q):=(dZ (Q:=Q) k h hh:)
theorem Wg (k:Nat) (h:iA P G n k (.ops os l) [] t=some (.out .normal,[],t2)) (hh:Q .normal t2 O):bZ P G os n l t O Q:=(dZ (Q:=Q) k h hh:)
theorem Wh (k:Nat) (h:iA P G n k (.ops os l) [] t=some (.ops os2 l2,[],t2)) (hh:bZ P G os2 n l2 t2 O Q):bZ P G os n l t O Q:=(dZ (Q:=Q) k h hh:)
theorem Vy {d:Code} (k:Nat) (h:iA P G n k (.ops os l) [.seq d] t=some (.code c2,[],t2)) (hh:Ev P G c2 n t2 O Q):bZ P G os n l t O (dF P G n d Q):=(dZ (Q:=Q) k h hh:)
theorem UI {d:Code} {u:Nat} (k:Nat) (h:iA P G n k (.ops os l) [.seq d] t=some (.code c2,[.dz u],t2)) (hh:Ev P G c2 n t2 O (jb u Q)):bZ P G os n l t O (dF P G n d Q):=(dZ (Q:=Q) k h hh:)
theorem TD {d:Code} {u:Code} (k:Nat) (h:iA P G n k (.ops os l) [.seq d] t=some (.code c2,[.dz z,.seq u],t2)) (hh:Ev P G c2 n t2 O (jb z<|dF P G n u Q)):bZ P G os n l t O (dF P G n d Q):=(dZ (Q:=Q) k h hh:)
theorem UJ {d:Code} {u:Code} (k:Nat) (h:iA P G n k (.ops os l) [.seq d] t=some (.code c2,[.seq u],t2)) (hh:Ev P G c2 n t2 O (dF P G n u Q)):bZ P G os n l t O (dF P G n d Q):=(dZ (Q:=Q) k h hh:)
theorem Vz {d:Code} (k:Nat) (h:iA P G n k (.ops os l) [.seq d] t=some (.ops os2 l2,[],t2)) (hh:bZ P G os2 n l2 t2 O Q):bZ P G os n l t O (dF P G n d Q):=(dZ (Q:=Q) k h hh:)
theorem UK {d:Code} {u:Code} (k:Nat) (h:iA P G n k (.ops os l) [.seq d] t=some (.ops os2 l2,[.seq u],t2)) (hh:bZ P G os2 n l2 t2 O (dF P G n u Q)):bZ P G os n l t O (dF P G n d Q):=(dZ (Q:=Q) k h hh:)
theorem TE {d:Code} {u z:Code} (k:Nat) (h:iA P G n k (.ops os l) [.seq d] t=some (.ops os2 l2,[.seq u,.seq z],t2)) (hh:bZ P G os2 n l2 t2 O (dF P G n u<|dF P G n z Q)):bZ P G os n l t O (dF P G n d Q):=(dZ (Q:=Q) k h hh:)
theorem VA {d:Code} (k:Nat) (h:iA P G n k (.ops os l) [.seq d] t=some (.out .ret,[],t2)) (hh:Q .ret t2 O):bZ P G os n l t O (dF P G n d Q):=(dZ (Q:=Q) k h hh:)
theorem UL {d:Code} {u:Nat} (k:Nat) (h:iA P G n k (.ops os l) [.seq d,.dz u] t=some (.out .normal,[],t2)) (hh:Q .normal t2 O):bZ P G os n l t O (dF P G n d<|jb u Q):=(dZ (Q:=Q) k h hh:)
theorem UM {d u:Code} (k:Nat) (h:iA P G n k (.ops os l) [.seq d,.seq u] t=some (.out .ret,[],t2)) (hh:Q .ret t2 O):bZ P G os n l t O (dF P G n d<|dF P G n u Q):=(dZ (Q:=Q) k h hh:)
theorem UN {d u:Code} (k:Nat) (h:iA P G n k (.ops os l) [.seq d,.seq u] t=some (.out (.exit j),[],t2)) (hh:Q (.exit j) t2 O):bZ P G os n l t O (dF P G n d<|dF P G n u Q):=(dZ (Q:=Q) k h hh:)
theorem Wi (k:Nat) (h:iA P G n k (.lj os lp) [] t=some (.out .normal,[],t2)) (hh:Q .normal t2 O):cR P G os n lp t O Q:=(dZ (Q:=Q) k h hh:)
theorem Wj (k:Nat) (h:iA P G n k (.lj os lp) [] t=some (.lj os2 lp2,[],t2)) (hh:cR P G os2 n lp2 t2 O Q):cR P G os n lp t O Q:=(dZ (Q:=Q) k h hh:)
theorem VB {d:Code} (k:Nat) (h:iA P G n k (.lj os lp) [.seq d] t=some (.code c2,[],t2)) (hh:Ev P G c2 n t2 O Q):cR P G os n lp t O (dF P G n d Q):=(dZ (Q:=Q) k h hh:)
theorem VC {d:Code} (k:Nat) (h:iA P G n k (.lj os lp) [.seq d] t=some (.out .ret,[],t2)) (hh:Q .ret t2 O):cR P G os n lp t O (dF P G n d Q):=(dZ (Q:=Q) k h hh:)
theorem VD {d:Code} (ar:H O K L) (k:Nat) (hi:List Nat) (h:uc P G n L k (.code c) [] t hi [] [] []=some (.code c2,[.seq d],t2,cs,e1,e2)) (he:e1=e2) (hh:Ev P G c2 n t2 O (dF P G n d Q)) (u:lC P cs=true:=by kernel_rfl):Ev P G c n t O Q:=((iY (Q:=Q) ar k h u he hh).2:)
theorem VE {d:Code} (ar:H O K L) (k:Nat) (hi:List Nat) (h:uc P G n L k (.code c) [] t hi [] [] []=some (.ops os2 l2,[.seq d],t2,cs,e1,e2)) (he:e1=e2) (hh:bZ P G os2 n l2 t2 O (dF P G n d Q)) (u:lC P cs=true:=by kernel_rfl):Ev P G c n t O Q:=((iY (Q:=Q) ar k h u he hh).2:)
theorem UO {d u:Code} (ar:H O K L) (k:Nat) (hi:List Nat) (h:uc P G n L k (.code c) [] t hi [] [] []=some (.ops os2 l2,[.seq d,.seq u],t2,cs,e1,e2)) (he:e1=e2) (hh:bZ P G os2 n l2 t2 O (dF P G n d<|dF P G n u Q)) (z:lC P cs=true:=by kernel_rfl):Ev P G c n t O Q:=((iY (Q:=Q) ar k h z he hh).2:)
theorem UP {d:Code} {u:Code} (ar:H O K L) (k:Nat) (hi:List Nat) (h:uc P G n L k (.code c) [.seq d] t hi [] [] []=some (.ops os2 l2,[.seq u],t2,cs,e1,e2)) (he:e1=e2) (hh:bZ P G os2 n l2 t2 O (dF P G n u Q)) (z:lC P cs=true:=by kernel_rfl):Ev P G c n t O (dF P G n d Q):=((iY (Q:=Q) ar k h z he hh).2:)
theorem Wk (ar:H O K L) (k:Nat) (hi:List Nat) (h:uc P G n L k (.ops os l) [] t hi [] [] []=some (.ops os2 l2,[],t2,cs,e1,e2)) (he:e1=e2) (hh:bZ P G os2 n l2 t2 O Q) (d:lC P cs=true:=by kernel_rfl):bZ P G os n l t O Q:=((iY (Q:=Q) ar k h d he hh).2:)
theorem VF {d:Code} (ar:H O K L) (k:Nat) (hi:List Nat) (h:uc P G n L k (.ops os l) [.seq d] t hi [] [] []=some (.code c2,[],t2,cs,e1,e2)) (he:e1=e2) (hh:Ev P G c2 n t2 O Q) (u:lC P cs=true:=by kernel_rfl):bZ P G os n l t O (dF P G n d Q):=((iY (Q:=Q) ar k h u he hh).2:)
theorem UQ {d:Code} {u:Code} (ar:H O K L) (k:Nat) (hi:List Nat) (h:uc P G n L k (.ops os l) [.seq d] t hi [] [] []=some (.ops os2 l2,[.seq u],t2,cs,e1,e2)) (he:e1=e2) (hh:bZ P G os2 n l2 t2 O (dF P G n u Q)) (z:lC P cs=true:=by kernel_rfl):bZ P G os n l t O (dF P G n d Q):=((iY (Q:=Q) ar k h z he hh).2:)
theorem TF {d:Code} {u z:Code} (ar:H O K L) (k:Nat) (hi:List Nat) (h:uc P G n L k (.ops os l) [.seq d] t hi [] [] []=some (.ops os2 l2,[.seq u,.seq z],t2,cs,e1,e2)) (he:e1=e2) (hh:bZ P G os2 n l2 t2 O (dF P G n u<|dF P G n z Q)) (A:lC P cs=true:=by kernel_rfl):bZ P G os n l t O (dF P G n d Q):=((iY (Q:=Q) ar k h A he hh).2:)
theorem VG {d:Code} (ar:H O K L) (k:Nat) (hi:List Nat) (h:uc P G n L k (.ops os l) [.seq d] t hi [] [] []=some (.out .ret,[],t2,cs,e1,e2)) (he:e1=e2) (hh:Q .ret t2 O) (u:lC P cs=true:=by kernel_rfl):bZ P G os n l t O (dF P G n d Q):=((iY (Q:=Q) ar k h u he hh).2:)
theorem Wl (ar:H O K L) (k:Nat) (hi:List Nat) (h:uc P G n L k (.lj os lp) [] t hi [] [] []=some (.lj os2 lp2,[],t2,cs,e1,e2)) (he:e1=e2) (hh:cR P G os2 n lp2 t2 O Q) (d:lC P cs=true:=by kernel_rfl):cR P G os n lp t O Q:=((iY (Q:=Q) ar k h d he hh).2:)
end
end Go.Ev
namespace Go.Ev
variable [Env] {α:Type}
inductive XE where
 | mk (op num:Int) (name:List Nat) (kids:List XE)
structure XI where
 kind:Int
 PN:Int
 loc:Int
 order:Int
 to:Int
 exprs:List XE
structure XC where
 gy:Int
 ins:List XI
open Classical in
def cC {α:Type} (a b:α):Bool:=decide (a=b)
theorem dt {a b:α}:cC a b=true↔a=b:=by unfold cC;simp
theorem mK {a b:α}:cC a b=false↔a≠b:=by unfold cC;simp
theorem cY {c:Bool} (h:(bif c then false else true)=true):c=false:=by cases c<;>simp_all
theorem cD {c:Bool} (h:(bif c then false else true)=false):c=true:=by cases c<;>simp_all
theorem fZ {l1 l2:List α} (h:F (.ofNat l1.length) (.ofNat l2.length)=false):cC l1 l2=false:=by
 rw[mK];rintro rfl;rw[cK] at h;simp at h
theorem ew {α β:Type} {l1:List α} {l2:List β} (h:F (.ofNat l1.length) (.ofNat l2.length)=true):l1.length=l2.length:=by
 rw[cK] at h
 grind
theorem gW {l1 l2:List α} {i:Nat} {x y:α} (hx:l1[i]? =some x) (hy:l2[i]? =some y) (h:cC x y=false):cC l1 l2=false:=by
 rw[mK] at h⊢
 grind
theorem fx {l1 l2:List α} {i:Nat} (hl:l1.length=l2.length) (hi:l1.length<=i) (h:∀k,k<i->l1[k]? =l2[k]?):cC l1 l2=true:=by
 rw[dt];refine zf_ fun k=>?_
 grind
theorem lY {l1 l2:List α} {i:Nat} {x y:α} (h:∀k,k<i->l1[k]? =l2[k]?) (hx:l1[i]? =some x) (hy:l2[i]? =some y) (hs:cC x y=true):∀k,k<i+1->l1[k]? =l2[k]?:=fun k hk=>by
 grind [dt]
theorem bK {a b:Nat} (h:dH (.ofNat a) (.ofNat b)=false):b<=a:=by
 grind [dq]
theorem aM {a b:Nat} (h:dH (.ofNat a) (.ofNat b)=true):a<b:=by
 rw[dq,decide_eq_true_iff] at h
 simp_all
theorem dc {l:List α} {i:Nat} (h:i<l.length):∃x,l[i]? =some x:=⟨l[i],gC h⟩
theorem di {l:List α} {i:Nat} (h:dH (.ofNat i) (.ofNat l.length)=true):∃x,l[i]? =some x/\i<l.length:=by
 rw[dq,decide_eq_true_iff] at h
 simp_all
end Go.Ev
namespace Go.Ev
variable [Env]
def ek (n:Int) (vs:List V):Prop:=vs= [.int .i64 n]
def RL {α:Type} (K:KP) (m:Nat) (R:α->List V->Prop) (l:List α) (vs:List V):Prop:=∃v,vs= [v]/\bO K m R l v
theorem tF {a b:Int}:F a b=cC a b:=by rw[cK,zd_,decide_eq_true_iff,dt]
end Go.Ev
namespace Go.Ev
variable [Env]
variable {cb:List Int} {x:Operand}
def Gd (xs ys:List Int):Bool:=
 List.rec (motive:=fun _=>List Int->Bool) (fun ys=>List.rec (motive:=fun _=>Bool) true (fun _ _ _=>false) ys)
  (fun x _ ih ys=>List.rec (motive:=fun _=>Bool) false (fun y r _=>bif F x y then ih r else false) ys) xs ys
theorem HQ:∀(xs ys:List Int),Gd xs ys=cC xs ys
 | [],[]=>by rw[show Gd [] []=true from Z,eq_comm,dt]
 | [],_::_=>by rw[show Gd [] (_::_)=false from Z,eq_comm,mK];simp
 | _::_,[]=>by rw[show Gd (_::_) []=false from Z,eq_comm,mK];simp
 | x::xs,y::ys=>by
  show(bif F x y then Gd xs ys else false)=_;rw[HQ xs ys,cK,zd_,dt]
  grind [dt]
def ints (xs:List Int):List V:=xs.map (.int .i64)
def L6:Option TypeDesc->Bool
 | some (.int .i64)=>true
 | _=>false
def uP (P:Program) (fs:List Field):Nat->Bool:=List.rec (motive:=fun _=>Nat->Bool) (fun _=>true) (fun f _ ih k=>L6 (P.underlying f.type) && (Nat.beq f.offset k && ih (k+1))) fs
def jD (P:Program) (t:TypeId) (n:Nat):Bool:=
 match structOf P t with
 | some fs=>uP P fs.toList 0 && (Nat.beq fs.toList.length n && (!P.eqGuardType P.depth t && (!P.stoodInHeld t && lL fs.toList)))
 | none=>false
theorem rZ {P:Program}:∀(fs:List Field) (k:Nat) (xs ys:List Int),uP P fs k=true->xs.length=k+fs.length->ys.length=k+fs.length->eqFields P fs (ints xs) (ints ys)=some (Gd (xs.drop k)<|ys.drop k)
 | [],k,xs,ys,_,h1,d=>by
  rw[List.drop_eq_nil_of_le (by simp at h1;omega),List.drop_eq_nil_of_le (by simp at d;omega)];rfl
 | f::fs,k,xs,ys,h,h1,d=>by
  have h':(L6 (P.underlying f.type) && (Nat.beq f.offset k && uP P fs (k+1)))=true:=h;simp only[bA_] at h';obtain⟨e1,e2,u⟩:=h';have hk:f.offset=k:=nB e2
  have hu:P.underlying f.type=some (.int .i64):=by
   grind [L6]
  have l1:k<xs.length:=by simp at h1;omega
  have l2:k<ys.length:=by simp at d;omega
  have z:nth (ints xs) f.offset=some (.int .i64 xs[k]):=by grind [fY,ints]
  have A:nth (ints ys) f.offset=some (.int .i64 ys[k]):=by grind [fY,ints]
  have ih:=rZ fs (k+1) xs ys u (by simp at h1⊢;omega) (by simp at d⊢;omega)
  show(match P.underlying f.type,nth (ints xs) f.offset,nth (ints ys) f.offset with
   | some .bool,some (.bool a),some (.bool b)=>bif (bif a then b else(bif b then false else true)) then eqFields P fs (ints xs) (ints ys) else some false
   | some (.int _),some (.int j a),some (.int k b)=>bif uE j k then(bif F a b then eqFields P fs (ints xs) (ints ys) else some false) else none
   | some .string,some (.str a),some (.str b)=>bif AB a b then eqFields P fs (ints xs) (ints ys) else some false
   | some (.struct gs),_,_=>_
   | some (.array m e),_,_=>_
   | _,_,_=>none)=_
  rw[hu,z,A,zj_ l1,zj_ l2,ih];show(bif F xs[k] ys[k] then _ else some false)=some (bif F xs[k] ys[k] then Gd (xs.drop (k+1)) (ys.drop (k+1)) else false)
  grind
theorem tE {P:Program} {t:TypeId} {n:Nat} {xs ys:List Int} (h:jD P t n=true) (hx:xs.length=n) (hy:ys.length=n):Gb P t (.agg<|ints xs) (.agg<|ints ys)=some (cC xs ys):=by
 unfold jD at h;split at h
 ·rename_i fs d;simp only[bA_,Bool.not_eq_true'] at h;obtain⟨h1,u,z,A,h5⟩:=h;have hn:fs.toList.length=n:=nB u;unfold Gb;dsimp only;rw[d];dsimp only;rw[z,A,h5];simp only[Bool.not_true,Bool.or_false,cond_false];rw[rZ fs.toList 0 xs ys h1 oM oM,List.drop_zero,List.drop_zero,HQ]
 cases h
section
variable {P:Program} {G:Cx} {ev:Operand->Option V} {O:aB}
theorem zF {t r:TypeId} {y:Operand} {n:Nat} {ca:List Int} (h:jD P t n=true) (d:ca.length=n) (hb:cb.length=n) (hx:ev x=some (.agg<|ints ca)) (hy:ev y=some (.agg<|ints cb)):eo P G ev O (.binOp .eql t x y r)= .val (.bool<|cC ca cb) O:=by
 refine ay hx hy ?_;show nc P .eql t _ _=_;unfold nc;dsimp only;rw[tE h d hb]
theorem zH {t r:TypeId} {y:Operand} {n:Nat} {ca:List Int} (h:jD P t n=true) (d:ca.length=n) (hb:cb.length=n) (hx:ev x=some (.agg<|ints ca)) (hy:ev y=some (.agg<|ints cb)):eo P G ev O (.binOp .neq t x y r)= .val (.bool (bif cC ca cb then false else true)) O:=by
 refine ay hx hy ?_;show nc P .neq t _ _=_;unfold nc;dsimp only;rw[tE h d hb]
end
structure bS where
 bH:Int
 index:Int
structure cm where
 kind:Int
 loc:Int
 order:Int
 read:Int
 write:Int
structure XG where
 init:List Int
 threads:List (List cm)
 from_:List (List bS)
 order:List (List bS)
def bS.ints (x:bS):List Int:=[x.bH,x.index]
def cm.ints (x:cm):List Int:=[x.kind,x.loc,x.order,x.read,x.write]
theorem bS.same {x y:bS}:cC x.ints y.ints=cC x y:=by
 rw[zd_,dt,dt];cases x;cases y;simp[bS.ints]
theorem cm.same {x y:cm}:cC x.ints y.ints=cC x y:=by
 rw[zd_,dt,dt];cases x;cases y;simp[cm.ints]
def dK (x:bS) (vs:List V):Prop:=vs=ints x.ints
def gG (x:cm) (vs:List V):Prop:=vs=ints x.ints
structure dS (K:KP) (g:XG) (a b c d:V):Prop where
 init:bO K 1 ek g.init a
 threads:bO K 1 (RL K 5 gG) g.threads b
 from_:bO K 1 (RL K 2 dK) g.from_ c
 order:bO K 1 (RL K 2 dK) g.order d
theorem nq {a b:XG}:cC a b=(cC a.init b.init && (cC a.threads b.threads && (cC a.from_ b.from_ && cC a.order b.order))):=by
 rw[zd_,dt];cases a;cases b;simp[dt]
end Go.Ev
namespace Go.Ev
section
variable [Env] {H_:Type}
def Fit (P:Program):Nat->TypeId->DataW H_->Prop
  | 0,_,_=>False
  | fuel+1,t,d=>
    match P.underlying t with
    | some .bool=>∃b,d= .lit (.bool b)
    | some (.int k)=>∃n,d= .lit (.int k n)
    | some .string=>∃s,d= .lit (.string s)/\s.length<=maxLen
    | some (.slice e)=>d= .nil∨∃elems spare,d= .slice elems spare/\∀x∈elems,Fit P fuel e x
    | some (.struct fs)=>∃parts,d= .agg parts/\parts.length=fs.size/\∀(i:Nat) (f:Field) (x:DataW H_),fs[i]? =some f->parts[i]? =some x->Fit P fuel f.type x
    | _=>True
theorem Et {α β:Type} {f:α->Option β}:∀{l:List α} {ys:List β},l.mapM f=some ys->ys.length=l.length/\∀(i:Nat) (x:α),l[i]? =some x->∃y,ys[i]? =some y/\f x=some y
  | [],ys,h=>by simp_all
  | a::l,ys,h=>by
    simp only[List.mapM_cons,Option.bind_eq_bind,Option.bind_eq_some_iff,Option.pure_def,oJ_] at h;obtain⟨y,h1,r,d,rfl⟩:=h;obtain⟨k1,k2⟩:=Et d
    grind
variable {enc:TypeId×Value->H_} {P:Program} {w:World}
theorem qd:∀(fuel:Nat) (t:TypeId) (cs:List Value) (d:DataW H_) (p:List MemPlace),DataW.trod enc P w 0 (fun _=>true) true fuel t cs=some (d,p)->Fit P fuel t d
  | 0,_,_,_,_,h=>by simp[DataW.trod] at h
  | fuel+1,t,cs,d,p,h=>by
    have ih:=qd fuel;unfold Fit;cases hu:P.underlying t with
    | none=>trivial
    | some u=>
      unfold DataW.trod at h;rw[hu] at h;cases u with
      | bool=>
        split at h<;>first | (rename_i he;cases he;done) | skip
        all_goals first
          | (cases h;exact⟨_,Z⟩)
          | cases h
      | int k=>
        split at h<;>first | (rename_i he;cases he;done) | skip
        all_goals first
          | (rename_i B A n he
             cases he;split at h
             · cases h;exact⟨_,Z⟩
             · cases h)
          | cases h
      | string=>
        split at h<;>first | (rename_i he;cases he;done) | skip
        all_goals first
          | (split at h
             · rename_i C;cases h;exact⟨_,Z,by rw[Array.length_toList];exact C⟩
             · cases h)
          | cases h
      | struct fs=>
        dsimp only at h⊢;split at h
        · obtain⟨xs,E,hx⟩:=oM_.1 h
          have hd:d= .agg (xs.map (·.1)):=by have:=congrArg Prod.fst hx;simpa using this.symm
          obtain⟨B,A⟩:=Et E;refine⟨_,hd,by simpa using B,fun i f x hf z=>?_⟩;obtain⟨y,hy,I⟩:=A i f (by rw[aT_];exact hf);rw[gM_,hy] at z;cases z;exact ih _ _ _ y.2 I
        · cases h
      | slice e=>
        split at h<;>first | (rename_i he;cases he;done) | skip
        · cases h;exact .inl Z
        · rename_i e' a len cap he
          cases he;dsimp only at h;rw[if_pos Z] at h;split at h
          · obtain⟨elems,K,L⟩:=Option.bind_eq_some_iff.1 h
            obtain⟨rest,_,hd⟩:=oM_.1 L;have hd:d= .slice (elems.map (·.1)) (rest.map (·.1)):=by have:=congrArg Prod.fst hd;simpa using this.symm
            refine .inr ⟨_,_,hd,fun x hx=>?_⟩;obtain⟨y,hy,rfl⟩:=zn_.1 hx;obtain⟨i,hi⟩:=gO_ hy;obtain⟨B,A⟩:=mw K;obtain⟨j,_,hj⟩:=A i y hi;obtain⟨c,_,M⟩:=Option.bind_eq_some_iff.1 hj;exact ih _ _ _ y.2 M
          · cases h
        all_goals cases h
      | _=>trivial
end
section
variable [Env] {P:Program} {G:Cx}
def IX (O:aB):KP:=fun b o=>b<O.next/\O.m.get b=some o
theorem H.of (O:aB):H O (IX O) []:=⟨fun b o h=>⟨h.1,h.2,fun e he=>by cases he⟩,fun e he=>(by cases he),List.Pairwise.nil⟩
theorem iN.Tq {w w':World} {Y Y':Ren} {O O':aB} (h:fb Y O w Y' O' w') (z:ll O):iN w w':=
  ⟨h.os,h.out,h.tape,h.size,fun r d=>h.frame r d fun⟨b,o,l,h1,u,_⟩=>by rw[z b o h1] at u;cases u⟩
theorem vG (hm:P.follows .mixedOrders=true) (d:zJ P G) {Y:Ren} {O:aB} {w:World} {f:Nat} {args:List V} {xs:Array Value} {R:V->aB->Prop} (hi:Inv Y O w) (u:GR Y G) (z:ll O) (hx:dA Y args xs.toList) (h:bh P G f args O R):
    Calls P f xs w fun e w'=>∃v x O' Y',e= .returned x/\iN w w'/\VR Y' v x/\R v O':=by
  obtain⟨K,v,O',h1,A⟩:=h;exact p7 (fuel:=K) hm d (h1 K<|nR_ _) hi u hx fun Y' w' x _ st hv=>⟨v,x,O',Y',Z,iN.Tq st z,hv,A⟩
theorem fF.fresh {Y:Ren} {O:aB} {w:World} (hi:Inv Y O w) {b:Nat} {o:cN} (h:O.m.get b=some o):b<O.next:=by
  rcases Nat.lt_or_ge b O.next with h' | h'
  · exact h'
  · rw[(hi.fresh b h').2] at h;cases h
end
section
variable {H_:Type}
def Cp:DataW H_->Int
 | .lit (.int _ n)=>n
 | _=>0
def mg:DataW H_->List (DataW H_)
 | .slice l _=>l
 | _=>[]
def kh (d:DataW H_) (i:Nat):DataW H_:=
 match d with
 | .agg ps=>ps.getD i .nil
 | _=>.nil
end
section
variable [Env] {H_:Type} {P:Program} {O:aB}
theorem uR {fuel:Nat} {t:TypeId} {d:DataW H_} {vs:List V} {k:IntKind} (hu:P.underlying t=some (.int k)) (hf:Fit P fuel t d) (hd:fF P O fuel t d vs):vs= [.int k<|Cp d]/\(Lit.int k<|Cp d).wf=true:=by
 cases fuel with
 | zero=>exact hf.elim
 | succ fuel=>
  unfold Fit at hf;rw[hu] at hf;obtain⟨n,rfl⟩:=hf;unfold fF at hd;rw[hu] at hd;obtain⟨_,u,rfl⟩:=hd;exact⟨Z,u⟩
theorem zo {α:Type} {fuel:Nat} {t e:TypeId} {m:Nat} {d:DataW H_} {vs:List V} (F_:DataW H_->α) (R:α->List V->Prop) (hu:P.underlying t=some (.slice e)) (hm:P.cellsOf e=m) (h1:1<=m) (hn:∀(b:Nat) (o:cN),O.m.get b=some o->b<O.next) (hf:Fit P (fuel+1) t d) (hd:fF P O (fuel+1) t d vs)
  (hR:∀x vs,Fit P fuel e x->fF P O fuel e x vs->R (F_ x) vs):∃v,vs= [v]/\bO (IX O) m R ((mg d).map F_) v:=by
 unfold Fit at hf;rw[hu] at hf;dsimp only at hf;unfold fF at hd;rw[hu] at hd;rcases hf with rfl | ⟨elems,spare,rfl,aa⟩
 ·dsimp only at hd;exact⟨_,hd,.inl ⟨Z,Z⟩⟩
 dsimp only at hd;rw[hm] at hd;obtain⟨b,c,cells,e',rfl,z,u,A,B,k6⟩:=hd h1;refine⟨_,Z,.inr ⟨b,0,c,cells,e',true,by rw[show(mg<|DataW.slice elems spare).map F_=elems.map F_ from Z,lM_],?_,⟨hn b _ u,u⟩,?_,?_,fun i x hx=>?_⟩⟩
 ·rw[show(mg<|DataW.slice elems spare).map F_=elems.map F_ from Z,lM_];rcases A with rfl | rfl
  ·exact .inr ⟨_,Z,Nat.le_add_right _ _⟩
  exact .inl Z
 ·rw[show(mg<|DataW.slice elems spare).map F_=elems.map F_ from Z,lM_,B,nA_];exact nR_ _
 ·rw[show(mg<|DataW.slice elems spare).map F_=elems.map F_ from Z,lM_];exact z
 rw[show(mg<|DataW.slice elems spare).map F_=elems.map F_ from Z,gM_,oM_] at hx
 grind
theorem Km {fuel:Nat} {t:TypeId} {fs:Array Field} {d:DataW H_} {vs:List V} {m:Nat} (hu:P.underlying t=some (.struct fs)) (hc:P.cellsOf t=m) (ht:qM P fs.toList 0=some m) (hf:Fit P (fuel+1) t d) (hd:fF P O (fuel+1) t d vs):
  vs.length=m/\∀(i:Nat) (f:Field),fs[i]? =some f->Fit P fuel f.type (kh d i)/\fF P O fuel f.type (kh d i) ((vs.drop f.offset).take<|P.cellsOf f.type):=by
 unfold Fit at hf;rw[hu] at hf;dsimp only at hf;obtain⟨parts,rfl,hn,aa⟩:=hf;unfold fF at hd
 grind [kh]
theorem bO.fS {α:Type} {K:KP} {m:Nat} {R R':α->List V->Prop} {l:List α} {v:V} (h:bO K m R l v) (d:∀x vs,R x vs->R' x vs):bO K m R' l v:=h.mono (KP.le_refl K) d
end
end Go.Ev
namespace Go.Ev
variable [Env]
variable {G:Cx} {K:KP} {O:aB} {L:Own} {g:XG} {S X:V}
theorem Qo (X:Plain G) {l1 l2:List Int} {T:V} (ar:H O K L) (h1:bO K 1 (ek) l1 S) (W:bO K 1 (ek) l2 T)
    :Ca G K L 11 [S,T] O <| .bool (cC l1 l2):=by
  refine V9 X Tryz.func11 Z<|UE 9 Z<|J Z (W5 h1 Z Z Z (e:=2) Z) Z<|vQ 1 Z<|J Z (W5 W Z Z Z (e:=2) Z) Z<|Vy 3 Z<|aG Z (fun u=>?_) (fun u=>?_)
  · skip
    refine Vx 7 Z ?_;exact aA Z Z ⟨by first | rw[fZ<|cY u] | (rw[gW z A (by simpa only[tF] using cY B)]) | rw[fx (ew<|cD u) (bK C) d],ar⟩
  · skip
    refine TC 9 Z ?_;obtain⟨LL1,ar,hLL1⟩:=ar.named;refine bk ([4,5]++rg 11 15) (fun j t O=>∃(i:Nat),j+i=l1.length/\(∀k,k<i->l1[k]? =l2[k]?)/\t.get 5=some (nI i)/\H O K LL1) (l1.length) ⟨0,Z,fun k hk=>absurd hk (nZ_ _),Z,ar⟩ ?_;clear ar;intro j4 t O ak hI;obtain⟨i,hj,d,R,ar⟩:=hI;subst hLL1;obtain⟨oo,rfl⟩:=ak.q1 R Z;refine UE 5 Z<|J Z (W5 h1 Z Z Z (e:=2) Z) Z<|Vy 3 Z<|aG Z (fun C=>?_) (fun C=>?_)
    · skip
      refine SE 5 Z<|aL (l:=zp [0,1,2,3,4,5,6,7,8]) U U<|Wj 2 Z ?_;obtain⟨ao,z,E⟩:=di C;refine WW (e:=2) (m:=1) h1 z Z Z Z Z Z (fun ap aa I ab M=>?_);obtain rfl:=M;refine ah Z Z (W7 ar I Z Z) Z<|Wj 2 Z ?_;obtain⟨aE,A⟩:=dc (show _<l2.length from by rw[<-ew (cD u)];exact E);refine WW (e:=2) (m:=1) W A Z Z Z Z Z (fun a0 ac N am Q=>?_);obtain rfl:=Q;refine ah Z Z (W7 ar N Z Z) Z<|VB 3 Z<|aG Z (fun B=>?_) (fun B=>?_)
      · skip
        refine Wf 6 Z<|aP<|aH<|bX<|aP<|aH (?_);exact aA Z Z ⟨by first | rw[fZ<|cY u] | (rw[gW z A (by simpa only[tF] using cY B)]) | rw[fx (ew<|cD u) (bK C) d],ar⟩
      · skip
        refine aI<|az<|Wd 5 Z<|aD ⟨j4-1,by omega,oF,i+1,by omega,lY d z A (by simpa only[tF] using cD B),cI<|aX (by have:=h1.cS;omega),ar⟩
    · skip
      refine UH 3 Z<|aN<|Wf 6 Z ?_;exact aA Z Z ⟨by first | rw[fZ<|cY u] | (rw[gW z A (by simpa only[tF] using cY B)]) | rw[fx (ew<|cD u) (bK C) d],ar⟩
theorem NT (hG:Plain G) {l1 l2:List cm} {W:V} (ar:H O K L) (h1:bO K 5 (gG) l1 W) (h2:bO K 5 (gG) l2 X)
    :Ca G K L 65 [W,X] O <| .bool (cC l1 l2):=by
  refine V9 hG Tryz.func65 Z<|UE 9 Z<|J Z (W5 h1 Z Z Z (e:=38) Z) Z<|vQ 1 Z<|J Z (W5 h2 Z Z Z (e:=38) Z) Z<|Vy 3 Z<|aG Z (fun u=>?_) (fun u=>?_)
  · skip
    refine Vx 7 Z ?_;exact aA Z Z ⟨by first | rw[fZ<|cY u] | (rw[gW z A (by exact(cm.same (x:=E) (y:=I)).symm.trans<|cY B)]) | rw[fx (ew<|cD u) (bK C) d],ar⟩
  · skip
    refine TC 9 Z ?_;obtain⟨LL1,ar,hLL1⟩:=ar.named;refine bk ([4,5]++rg 11 15) (fun j t O=>∃(i:Nat),j+i=l1.length/\(∀k,k<i->l1[k]? =l2[k]?)/\t.get 5=some (nI i)/\H O K LL1) (l1.length) ⟨0,Z,fun k hk=>absurd hk (nZ_ _),Z,ar⟩ ?_;clear ar;intro j4 t O ak hI;obtain⟨i,hj,d,T,ar⟩:=hI;subst hLL1;obtain⟨oo,rfl⟩:=ak.q1 T Z;refine UE 5 Z<|J Z (W5 h1 Z Z Z (e:=38) Z) Z<|Vy 3 Z<|aG Z (fun C=>?_) (fun C=>?_)
    · skip
      refine SE 5 Z<|aL (l:=zp [0,1,2,3,4,5,6,7,8]) U U<|Wj 2 Z ?_;obtain⟨E,z,M⟩:=di C;refine WW (e:=38) (m:=5) h1 z Z Z Z Z Z (fun ao aa N ab Q=>?_);obtain rfl:=Q;refine ah Z Z (W8 ar N Z Z) Z<|Wj 2 Z ?_;obtain⟨I,A⟩:=dc (show _<l2.length from by rw[<-ew (cD u)];exact M);refine WW (e:=38) (m:=5) h2 A Z Z Z Z Z (fun ap ac R am S=>?_);obtain rfl:=S;refine ah Z Z (W8 ar R Z Z) Z<|ah Z Z (zH (n:=5) (ca:=[_,_,_,_,_]) (cb:=[_,_,_,_,_]) U Z Z Z Z) Z<|VB 2 Z<|aG Z (fun B=>?_) (fun B=>?_)
      · skip
        refine Wf 6 Z<|aP<|aH<|bX<|aP<|aH (?_);exact aA Z Z ⟨by first | rw[fZ<|cY u] | (rw[gW z A (by exact(cm.same (x:=E) (y:=I)).symm.trans<|cY B)]) | rw[fx (ew<|cD u) (bK C) d],ar⟩
      · skip
        refine aI<|az<|Wd 5 Z<|aD ⟨j4-1,by omega,oF,i+1,by omega,lY d z A (by exact(cm.same (x:=E) (y:=I)).symm.trans<|cD B),cI<|aX (by have:=h1.cS;omega),ar⟩
    · skip
      refine UH 3 Z<|aN<|Wf 6 Z ?_;exact aA Z Z ⟨by first | rw[fZ<|cY u] | (rw[gW z A (by exact(cm.same (x:=E) (y:=I)).symm.trans<|cY B)]) | rw[fx (ew<|cD u) (bK C) d],ar⟩
theorem Q6 (hG:Plain G) {l1 l2:List bS} {W:V} (ar:H O K L) (h1:bO K 2 (dK) l1 W) (h2:bO K 2 (dK) l2 X)
    :Ca G K L 66 [W,X] O <| .bool (cC l1 l2):=by
  refine V9 hG Tryz.func66 Z<|UE 9 Z<|J Z (W5 h1 Z Z Z (e:=87) Z) Z<|vQ 1 Z<|J Z (W5 h2 Z Z Z (e:=87) Z) Z<|Vy 3 Z<|aG Z (fun u=>?_) (fun u=>?_)
  · skip
    refine Vx 7 Z ?_;exact aA Z Z ⟨by first | rw[fZ<|cY u] | (rw[gW z A (by exact(bS.same (x:=E) (y:=I)).symm.trans<|cY B)]) | rw[fx (ew<|cD u) (bK C) d],ar⟩
  · skip
    refine TC 9 Z ?_;obtain⟨LL1,ar,hLL1⟩:=ar.named;refine bk ([4,5]++rg 11 15) (fun j t O=>∃(i:Nat),j+i=l1.length/\(∀k,k<i->l1[k]? =l2[k]?)/\t.get 5=some (nI i)/\H O K LL1) (l1.length) ⟨0,Z,fun k hk=>absurd hk (nZ_ _),Z,ar⟩ ?_;clear ar;intro j4 t O ak hI;obtain⟨i,hj,d,T,ar⟩:=hI;subst hLL1;obtain⟨oo,rfl⟩:=ak.q1 T Z;refine UE 5 Z<|J Z (W5 h1 Z Z Z (e:=87) Z) Z<|Vy 3 Z<|aG Z (fun C=>?_) (fun C=>?_)
    · skip
      refine SE 5 Z<|aL (l:=zp [0,1,2,3,4,5,6,7,8]) U U<|Wj 2 Z ?_;obtain⟨E,z,M⟩:=di C;refine WW (e:=87) (m:=2) h1 z Z Z Z Z Z (fun ao aa N ab Q=>?_);obtain rfl:=Q;refine ah Z Z (W8 ar N Z Z) Z<|Wj 2 Z ?_;obtain⟨I,A⟩:=dc (show _<l2.length from by rw[<-ew (cD u)];exact M);refine WW (e:=87) (m:=2) h2 A Z Z Z Z Z (fun ap ac R am S=>?_);obtain rfl:=S;refine ah Z Z (W8 ar R Z Z) Z<|ah Z Z (zH (n:=2) (ca:=[_,_]) (cb:=[_,_]) U Z Z Z Z) Z<|VB 2 Z<|aG Z (fun B=>?_) (fun B=>?_)
      · skip
        refine Wf 6 Z<|aP<|aH<|bX<|aP<|aH (?_);exact aA Z Z ⟨by first | rw[fZ<|cY u] | (rw[gW z A (by exact(bS.same (x:=E) (y:=I)).symm.trans<|cY B)]) | rw[fx (ew<|cD u) (bK C) d],ar⟩
      · skip
        refine aI<|az<|Wd 5 Z<|aD ⟨j4-1,by omega,oF,i+1,by omega,lY d z A (by exact(bS.same (x:=E) (y:=I)).symm.trans<|cD B),cI<|aX (by have:=h1.cS;omega),ar⟩
    · skip
      refine UH 3 Z<|aN<|Wf 6 Z ?_;exact aA Z Z ⟨by first | rw[fZ<|cY u] | (rw[gW z A (by exact(bS.same (x:=E) (y:=I)).symm.trans<|cY B)]) | rw[fx (ew<|cD u) (bK C) d],ar⟩
variable {a1 a2 b1 b2 d1 d2:V}
theorem Qn (hG:Plain G) {g1 u:XG} {c1 c2:V} (ar:H O K L) (h1:dS K g1 a1 b1 c1 d1) (h2:dS K u a2 b2 c2 d2):
  Ca G K L 24 [.agg [a1,b1,c1,d1],.agg [a2,b2,c2,d2]] O <| .bool (cC g1 u):=by
 obtain⟨b3,S,T,W⟩:=h1;obtain⟨b4,a3,a4,a5⟩:=h2;refine V9 hG Tryz.func24 Z<|Vw 2 Z<|kb ar (cH Z Z) (fun O b1 ar=>?_);refine kb ar (cH Z Z) (fun O b2 ar=>?_);refine TF ar 10 [0,1,0,0] Z Z<|kx (W2 Z Z Z) (Qo hG ar b3 b4) (fun O ar=>?_);refine J Z (dW Z) Z<|ky Z (an Z) (fun d=>?_) (fun d=>?_)
 ·refine UM 36 Z ?_;exact aA Z Z ⟨cB (by have z:cC g1.init u.init=false:=(by simpa using d);rw[nq];simp only[z,Bool.and_true,zp_,Bool.and_false,Bool.false_and]),ar.pop.pop⟩
 refine Wk ar 2 [1,1] Z Z<|J Z (W5 S Z Z Z (e:=25) Z) Z<|Wk ar 2 [1,0] Z Z<|J Z (W5 a3 Z Z Z (e:=25) Z) Z<|Wh 2 Z<|ky Z (an Z) (fun A=>?_) (fun A=>?_)
 ·refine UM 27 Z ?_;exact aA Z Z ⟨cB (by have z:cC g1.init u.init=true:=(by simpa using d);have e1:=fZ (cY A);rw[nq];simp only[z,e1,Bool.and_true,zp_,Bool.and_false,Bool.false_and]),ar.pop.pop⟩
 refine Wk ar 2 [2,1] Z Z<|J Z (W5 T Z Z Z (e:=42) Z) Z<|Wk ar 2 [2,0] Z Z<|J Z (W5 a4 Z Z Z (e:=42) Z) Z<|Wh 2 Z<|ky Z (an Z) (fun B=>?_) (fun B=>?_)
 ·refine UM 18 Z ?_;exact aA Z Z ⟨cB (by have z:cC g1.init u.init=true:=(by simpa using d);have e2:=fZ (cY B);rw[nq];simp only[z,e2,Bool.and_true,zp_,Bool.and_false,Bool.false_and]),ar.pop.pop⟩
 refine Wk ar 2 [3,1] Z Z<|J Z (W5 W Z Z Z (e:=42) Z) Z<|Wk ar 2 [3,0] Z Z<|J Z (W5 a5 Z Z Z (e:=42) Z) Z<|Vy 4 Z<|aG Z (fun X=>?_) (fun X=>?_)
 ·refine Vx 7 Z ?_;exact aA Z Z ⟨cB (by have z:cC g1.init u.init=true:=(by simpa using d);have e3:=fZ (cY X);rw[nq];simp only[z,e3,Bool.and_true,zp_,Bool.and_false,Bool.false_and]),ar.pop.pop⟩
 refine TC 9 Z ?_;obtain⟨LL1,ar,hLL1⟩:=ar.named;refine bk ([4,5]++rg 41 19) (fun j t O=>∃(i:Nat),j+i=g1.threads.length/\(∀k,k<i->g1.threads[k]? =u.threads[k]?)/\t.get 5=some (nI i)/\H O K LL1) (g1.threads.length) ⟨0,Z,fun k hk=>absurd hk (nZ_ _),Z,ar⟩ ?_;clear ar;intro j4 t O ak hI;obtain⟨i,cr,aa,b5,ar⟩:=hI;subst hLL1;obtain⟨oo,rfl⟩:=ak.q1 b5 Z;refine UO ar 6 [1,1] Z Z<|J Z (W5 S Z Z Z (e:=25) Z) Z<|Vy 3 Z<|aG Z (fun C=>?_) (fun C=>?_)
 ·refine SE 5 Z<|aL (l:=zp [0,1,2,3,4,5,6,7,8,9,10,11]) U U<|Wl ar 3 [1,1] Z Z ?_;obtain⟨cs,E,a9⟩:=di C;refine WW (e:=25) (m:=1) S E Z Z Z Z Z (fun cv b9 ba ca bb=>?_);have hr51':=bb;obtain⟨cw,rfl,bc⟩:=hr51';refine ah Z Z (W7 ar ba Z Z) Z<|Wl ar 3 [1,0] Z Z ?_;obtain⟨cx,I⟩:=dc (show _<u.threads.length from by rw[<-ew (cD A)];exact a9);refine WW (e:=25) (m:=1) a3 I Z Z Z Z Z (fun c0 cb bd cc be=>?_);have hr56':=be;obtain⟨c3,rfl,bf⟩:=hr56';refine ah Z Z (W7 ar bd Z Z) Z<|eL Z Z (W2 Z Z Z) (fun _=>Z) (NT hG ar bc bf) (fun O ar=>?_);refine⟨aT,?_⟩;refine ah Z Z (dW Z) Z<|VB 2 Z<|aG Z (fun am=>?_) (fun am=>?_)
  ·refine Wf 6 Z<|aP<|aH<|bX<|aP<|aH (?_);exact aA Z Z ⟨cB (by have z:cC g1.init u.init=true:=(by simpa using d);have e1:=gW E I (by simpa using am);rw[nq];simp only[z,e1,Bool.and_true,zp_,Bool.and_false,Bool.false_and]),ar.pop.pop⟩
  refine aI<|az<|Wd 5 Z<|aD ⟨j4-1,by omega,oF,i+1,by omega,lY aa E I (by simpa using am),cI<|aX (by have:=S.cS;omega),ar⟩
 refine UH 3 Z<|aN<|UD 7 Z ?_;obtain⟨LL2,ar,hLL2⟩:=ar.named;refine bk ([4,6]++rg 60 19) (fun j t O=>∃(i2:Nat),j+i2=g1.from_.length/\(∀k,k<i2->g1.from_[k]? =u.from_[k]?)/\t.get 6=some (nI i2)/\H O K LL2) (g1.from_.length) ⟨0,Z,fun k hk=>absurd hk (nZ_ _),Z,ar⟩ ?_;clear ar;intro j9 t O ak hI;obtain⟨i2,c4,ao,b6,ar⟩:=hI;subst hLL2;obtain⟨oo,rfl⟩:=ak.q1 b6 Z;refine UO ar 6 [2,1] Z Z<|J Z (W5 T Z Z Z (e:=42) Z) Z<|Vy 3 Z<|aG Z (fun ab=>?_) (fun ab=>?_)
 ·refine SE 5 Z<|aL (l:=zp [0,1,2,3,4,5,6,7,8,9,10,11]) U U<|Wl ar 3 [2,1] Z Z ?_;obtain⟨c5,M,bg⟩:=di ab;refine WW (e:=42) (m:=1) T M Z Z Z Z Z (fun c6 cd bi ce bl=>?_);have hr70':=bl;obtain⟨c7,rfl,bm⟩:=hr70';refine ah Z Z (W7 ar bi Z Z) Z<|Wl ar 3 [2,0] Z Z ?_;obtain⟨c8,N⟩:=dc (show _<u.from_.length from by rw[<-ew (cD B)];exact bg);refine WW (e:=42) (m:=1) a4 N Z Z Z Z Z (fun c9 ch bo ci bp=>?_);have hr75':=bp;obtain⟨dd,rfl,bq⟩:=hr75';refine ah Z Z (W7 ar bo Z Z) Z<|eL Z Z (W2 Z Z Z) (fun _=>Z) (Q6 hG ar bm bq) (fun O ar=>?_);refine⟨aT,?_⟩;refine ah Z Z (dW Z) Z<|VB 2 Z<|aG Z (fun ap=>?_) (fun ap=>?_)
  ·refine Wf 6 Z<|aP<|aH<|bX<|aP<|aH (?_);exact aA Z Z ⟨cB (by have z:cC g1.init u.init=true:=(by simpa using d);have e1:=fx (ew<|cD A) (bK C) aa;have e2:=gW M N (by simpa using ap);rw[nq];simp only[z,e1,e2,Bool.and_true,zp_,Bool.and_false,Bool.false_and]),ar.pop.pop⟩
  refine aI<|az<|Wd 5 Z<|aD ⟨j9-1,by omega,oF,i2+1,by omega,lY ao M N (by simpa using ap),cI<|aX (by have:=T.cS;omega),ar⟩
 refine UH 3 Z<|aN<|UD 7 Z ?_;obtain⟨LL3,ar,hLL3⟩:=ar.named;refine bk ([4,7]++rg 79 19) (fun j t O=>∃(i3:Nat),j+i3=g1.order.length/\(∀k,k<i3->g1.order[k]? =u.order[k]?)/\t.get 7=some (nI i3)/\H O K LL3) (g1.order.length) ⟨0,Z,fun k hk=>absurd hk (nZ_ _),Z,ar⟩ ?_;clear ar;intro b7 t O ak hI;obtain⟨i3,ck,ac,b8,ar⟩:=hI;subst hLL3;obtain⟨oo,rfl⟩:=ak.q1 b8 Z;refine UO ar 6 [3,1] Z Z<|J Z (W5 W Z Z Z (e:=42) Z) Z<|Vy 3 Z<|aG Z (fun aE=>?_) (fun aE=>?_)
 ·refine SE 5 Z<|aL (l:=zp [0,1,2,3,4,5,6,7,8,9,10,11]) U U<|Wl ar 3 [3,1] Z Z ?_;obtain⟨df,Q,bs⟩:=di aE;refine WW (e:=42) (m:=1) W Q Z Z Z Z Z (fun dk cl bt cn bv=>?_);have hr89':=bv;obtain⟨dl,rfl,bw⟩:=hr89';refine ah Z Z (W7 ar bt Z Z) Z<|Wl ar 3 [3,0] Z Z ?_;obtain⟨dm,R⟩:=dc (show _<u.order.length from by rw[<-ew (cD X)];exact bs);refine WW (e:=42) (m:=1) a5 R Z Z Z Z Z (fun dr co bD cp bH=>?_);have hr94':=bH;obtain⟨ds,rfl,b0⟩:=hr94';refine ah Z Z (W7 ar bD Z Z) Z<|eL Z Z (W2 Z Z Z) (fun _=>Z) (Q6 hG ar bw b0) (fun O ar=>?_);refine⟨aT,?_⟩;refine ah Z Z (dW Z) Z<|VB 2 Z<|aG Z (fun a0=>?_) (fun a0=>?_)
  ·refine Wf 6 Z<|aP<|aH<|bX<|aP<|aH (?_);exact aA Z Z ⟨cB (by have z:cC g1.init u.init=true:=(by simpa using d);have e1:=fx (ew<|cD A) (bK C) aa;have e2:=fx (ew<|cD B) (bK ab) ao;have e3:=gW Q R (by simpa using a0);rw[nq];simp only[z,e1,e2,e3,Bool.and_true,zp_,Bool.and_false,Bool.false_and]),ar.pop.pop⟩
  refine aI<|az<|Wd 5 Z<|aD ⟨b7-1,by omega,oF,i3+1,by omega,lY ac Q R (by simpa using a0),cI<|aX (by have:=W.cS;omega),ar⟩
 refine UH 3 Z<|aN<|Wf 6 Z ?_;exact aA Z Z ⟨cB (by have z:cC g1.init u.init=true:=(by simpa using d);have e1:=fx (ew<|cD A) (bK C) aa;have e2:=fx (ew<|cD B) (bK ab) ao;have e3:=fx (ew<|cD X) (bK aE) ac;rw[nq];simp only[z,e1,e2,e3,Bool.and_true,zp_,Bool.and_false,Bool.false_and]),ar.pop.pop⟩
end Go.Ev
namespace Go.Ev
variable [Env] {ix th:Int} {e j:Nat}
def cz (e:cm):Bool:=bif F e.kind 1 then true else F e.kind 3
def bz (e:cm):Bool:=bif F e.kind 2 then true else F e.kind 3
def cL (b:Bool):Bool:=bif b then false else true
def bY (e:cm) (n:Int):Bool:=
 bif dH e.kind 1 then false else bif dH 4 e.kind then false else bif dH e.order 1 then false else bif dH 6 e.order then false else
 bif (bif (!cz e) then cL (F e.read 0) else false) then false else bif (bif (!bz e) then cL (F e.write 0) else false) then false else
 bif F e.kind 4 then F e.loc 0 else bif cL (dH e.loc 0) then dH e.loc n else false
def dV (g:XG) (id:bS):Option cm:=
 match id.bH,id.index with
 | .ofNat 0,.ofNat i=>(g.init[i]?).map fun v=>⟨2,i,1,0,v⟩
 | .ofNat (t+1),.ofNat i=>(g.threads[t]?).bind (·[i]?)
 | _,_=>none
def nf (x:Option cm):cm:=x.getD ⟨0,0,0,0,0⟩
theorem AD {g:XG} (h:dH th 0=true):dV g ⟨th,ix⟩=none:=by
 rw[dq,decide_eq_true_iff] at h;cases th with
 | ofNat t=>grind
 | negSucc t=>rfl
theorem uL {g:XG} (h:dH ix 0=true):dV g ⟨th,ix⟩=none:=by
 rw[dq,decide_eq_true_iff] at h;cases ix with
 | ofNat t=>grind
 | negSucc t=>cases th with
  | ofNat n=>cases n<;>rfl
  | negSucc n=>rfl
theorem D0 {g:XG} (h:dH (.ofNat g.threads.length) th=true):dV g ⟨th,ix⟩=none:=by
 rw[dq,decide_eq_true_iff] at h;cases th with
 | negSucc t=>rfl
 | ofNat t=>
  have h:g.threads.length<t:=Int.ofNat_lt.1 h;cases t with
  | zero=>omega
  | succ t=>
   cases ix with
   | negSucc n=>rfl
   | ofNat n=>
    show(g.threads[t]?).bind _=none
    grind
theorem nG {n:Int} (h:dH n 0=false):∃m:Nat,n= .ofNat m:=by
 rw[dq,decide_eq_false_iff_not] at h;cases n with
 | ofNat m=>exact⟨m,Z⟩
 | negSucc m=>omega
theorem IE {n:Nat} (h:F (.ofNat n) 0=false):∃m:Nat,n=m+1:=by
 cases n with
 | zero=>cases h
 | succ m=>exact⟨m,Z⟩
theorem fD {t:Nat} (h:t<=9223372036854775807):wr .i64 (Int.sub (.ofNat (t+1)) 1)= .ofNat t:=by
 have e:Int.sub (.ofNat (t+1)) 1= .ofNat t:=by
  grind
 rw[e];show(bif Nat.ble t 9223372036854775807 then _ else _)=_
 grind [nE_]
theorem oo {a b:Nat} (h:dH (.ofNat a) (.ofNat b)=false):b<=a:=bK h
theorem iS {a b:Nat} (h:(bif dH (.ofNat a) (.ofNat b) then false else true)=false):a<b:=aM (cD h)
theorem iQ {a b:Nat} (h:(bif dH (.ofNat a) (.ofNat b) then false else true)=true):b<=a:=bK (cY h)
section
variable {P:Program} {G:Cx} {n:Nat} {t:PT V} {O:aB} {Q:Ex->PT V->aB->Prop}
theorem CM {fn:Func} {k ty b m:Nat} {ro:Bool} {cells:List V} {v:V} (d:fn.results.toList= [.cell j ty,.tmp k]) (h1:t.get j=some (.ptr b 0)) (hm:O.m.get b=some (.row cells e ro)) (u:dT P ty=some (some m)) (hn:cells.length=m) (z:t.get k=some v):e7 P fn t O=some (.tuple [.agg cells,v]):=by
 unfold e7;rw[d]
 have e1:gQ P t O (.cell j ty)=some (V.agg cells):=by
  show(match t.get (posOf j) with
   | some (.ptr b off)=>match O.m.get b with
    | some (.row cells _ _)=>match dT P ty with
     | some (some n)=>bif Nat.ble (off+n) (dU cells) then some (V.agg<|takeN (eA cells off) n) else none
     | some none=>nth cells off
     | none=>none
    | _=>none
   | _=>none)=_
  rw[show t.get (posOf j)=some (.ptr b 0) from h1];dsimp only;rw[hm];dsimp only;rw[u];dsimp only;rw[db,hn,nA_,show Nat.ble m m=true by simp_all,ej,eN,List.drop_zero,<-hn,List.take_length];rfl
 have e2:gQ P t O (.tmp k)=some v:=z
 have:dv (gQ P t O) [.cell j ty,.tmp k]=some [V.agg cells,v]:=by
  unfold dv;simp only[e1,e2]
 rw[this]
theorem cV {fn:Func} {R:V->aB->Prop} {k ty b m:Nat} {ro:Bool} {cells:List V} {v:V} (d:fn.results.toList= [.cell j ty,.tmp k]) (h1:t.get j=some (.ptr b 0)) (hm:O.m.get b=some (.row cells e ro)) (u:dT P ty=some (some m)) (hn:cells.length=m) (z:t.get k=some v) (A:R (.tuple [.agg cells,v]) O):Ga P fn R .ret t O:=
 ⟨.inr Z,_,CM d h1 hm u hn z,A⟩
end
end Go.Ev
namespace Go.Ev
variable [Env]
def dO (g:XG) (id from_:bS):Bool:=
 bif !cz (nf<|dV g id) then cC [from_.bH,from_.index] [0,0] else
 bif (dV g from_).isSome then
  bif (bif cC [from_.bH,from_.index] [id.bH,id.index] then false else true) then
   bif bz (nf<|dV g from_) then
    bif F (nf<|dV g from_).loc (nf<|dV g id).loc then F (nf<|dV g from_).write (nf<|dV g id).read else false
   else false
  else false
 else false
def fj (g:XG):Bool:=bif dH 4 (.ofNat g.threads.length) then true else bif dH 6 (.ofNat g.init.length) then true else g.threads.any fun l=>dH 14 (.ofNat l.length)
end Go.Ev
end
