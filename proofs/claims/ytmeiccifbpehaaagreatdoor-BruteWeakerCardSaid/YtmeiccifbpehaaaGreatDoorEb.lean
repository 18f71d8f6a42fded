/- Part of the proof: an evaluator of the model's code, rules for walks on it, walks. Without conditions. -/
import Derived.Test.YtmeiccifbpehaaaGreatDoorEa
import Derived.RecoverIn
import Derived.TacticsIn
import Derived.OrdersIn
import Derived.Sort.LoopGhostIn
import Derived.Scope
import Derived.ProofKit
import Derived.LaidSub
import Derived.KernelRfl
import Derived.Test.YtmeiccifbpehaaaGreatDoorProg
import Derived.Shelf.SlSortCmp.NoneTotal
import Derived.Shelf.SortG.Plain
import Derived.Shelf.SortG.SortNone
set_option linter.unusedSectionVars false
set_option linter.unusedVariables false
set_option linter.unusedSimpArgs false
noncomputable section
set_option maxRecDepth 4000
namespace Go.Ev
variable [Env]
variable {xs:Array Value} {σ₁:D} {cs₁:List Y} {l₁:Loc} {e o₁ ve:Nat} {ev:Operand->Option Y} {b₁:Pos} {ρ₁:Ren} {res:Result Next} {w₁:World} {ih:jX}
theorem xH {p q:Pos} (h:dV.beqP p q=true):p=q:=nB h
theorem QI {c d:oY} (h:dV.beqC c d=true):c=d:=by
 unfold dV.beqC at h
 grind [nB]
theorem IU {x y:Y} (h:dV.pj x y=true):x=y:=by
 unfold dV.pj at h;split at h
 ·grind
 ·rw[bA_,dS,decide_eq_true_eq] at h;rw[qv h.1,h.2]
 ·rw[yL,decide_eq_true_eq] at h;rw[h]
 ·rfl
 ·simp_all
 ·rw[bA_] at h;rw[xH h.1,nB h.2]
 ·rfl
 ·simp only[bA_] at h;grind [xH,nB,QI]
 ·rfl
 ·rw[xH h]
 ·rfl
 ·rfl
 ·simp_all
 ·simp only[bA_] at h;grind [nB,xH]
 cases h
theorem rD:∀{xs ys:List Y},dV.beqL xs ys=true->xs=ys
 | [],[],_=>rfl
 | [],_::_,h=>by cases h
 | _::_,[],h=>by cases h
 | x::xs,y::ys,h=>by
  have h':(bif dV.pj x y then dV.beqL xs ys else false)=true:=h;rw[bB] at h';split at h'
  ·rename_i hb;rw[IU hb,rD h']
  cases h'
theorem xG {x y:Y} (h:dV x y=true):x=y:=by
 unfold dV at h;split at h
 ·rw[rD h]
 exact IU h
theorem zu (E:Nat->TypeId) {l:List (Nat×List Y)} {b:Nat} {o:cd} (h:(Hw l E).get b=some o):∃x∈l,x.1=b/\o= .row x.2 (E x.1) true:=by
 have key:∀(l:List (Nat×List Y)) (m:PT cd),(l.foldl (fun m x=>m.put (some (.row x.2 (E x.1) true)) (posOf x.1)) m).get b=some o->(∃x∈l,x.1=b/\o= .row x.2 (E x.1) true)∨m.get b=some o:=by
  intro l;induction l with
  | nil=>simp_all
  | cons x l ih=>
   intro m h;rcases ih _ h with ⟨y,h1,h2⟩ | h
   ·grind
   rw[PT.jI] at h
   grind
 rcases key l _ h with h | h
 ·exact h
 rw[PT.mF] at h;cases h
section
variable {P:Program} {G:Cx} {U:Ren} {V:D} {w:World}
theorem Inv.putObj (hi:Inv U V w) {b:Pos} {l:Loc} {o o':cd} {x:Obj} (hb:V.m.get b=some o) (hl:U b=some l) (A:o.ro=false) (u:o'.ro=false) (C:gz U l o' x):
  Inv U (V.setObj b o') (w.putObj l.de x)/\eH U V w U (V.setObj b o') (w.putObj l.de x):=by
 have hlt:=hi.de b l hl;exact hi.change hb hl A u (World.putObj_heap_same hlt) C (fun r E=>World.putObj_heap_other E) (by simp) Z Z ⟨Z,nR_ _⟩
theorem Fw (A:∀g,G.ov g=true->x8 P g) {f:Operand->Value} {o:Oper} {r:HR} (hi:Inv U V w) (u:ER U ev f o.op) (h:dM P G ev V o.op=r) (hne:∀n,r≠ .err n):AH P U V w r ((execOp f o).run P w):=by
 subst h;unfold dM at hne⊢;cases hk:kindOf P o.op with
 | pure=>
  rw[hk] at hne;dsimp only at hne⊢;cases hp:dH P ev o.op with
  | none=>simp_all
  | some v=>
   obtain⟨x,hx,hv⟩:=zW (P:=P) (w:=w) u hp;rw[hx];exact .val hv hi<|eH.refl U V w
 | read=>
  rw[hk] at hne;dsimp only at hne⊢;cases hp:gG P ev V o.op with
  | none=>simp_all
  | some v=>
   obtain⟨x,hx,hv⟩:=z1 (P:=P) hi u hp;rw[hx];exact .val hv hi<|eH.refl U V w
 | alloc=>
  rw[hk] at hne;dsimp only at hne⊢;cases hp:fV P ev o.op with
  | none=>simp_all
  | some p=>
   obtain⟨ob,mk⟩:=p;obtain⟨x,ob',n,hx,aa,C,hv⟩:=wx (P:=P) (w:=w) u hp;obtain⟨inv,st⟩:=hi.alloc (l:=⟨w.heap.size,0,n⟩) Z C;rw[hx];exact .val (hv _ _<|Ren.cU _ _ _) inv st
 | kg=>
  rw[hk] at hne;exact E8 A hi u Z hne
theorem wY {o:Oper} (hne:∀n,dM P G ev V o.op≠ .err n) (c:Call):o.op≠ .defer c:=by
 intro e;rw[e] at hne;exact hne 16 Z
def U2 (U:Ren):Md->FrameMode->Prop
 | .ret,u=>u= .returning
 | .kG v,u=>∃x,u= .panicking [{v:=x,recovered:=false}]/\VR U v x
 | .Xj v,u=>∃x,u= .panicking [{v:=x,recovered:=true}]/\VR U v x
theorem U2.Rr {U:Ren}:∀{md:Md} {u:FrameMode},U2 U md u->u≠ .run
 | .ret,u,h=>by have h:u= .returning:=h;subst h;simp
 | .kG v,u,⟨x,h1,A⟩=>by subst h1;simp
 | .Xj v,u,⟨x,h1,A⟩=>by subst h1;simp
theorem qH {ih:jX} (M:Sound P G ih) {fn:Func} {m:Nat} {tmps:Array Value} {R:Ending->World->Prop}:∀(d:List DE) (ds:List Deferred) (md:Md) (V:D) (A:Md) (σ₁:D) (U:Ren) (w:World) (u:FrameMode),qG P G ih d md V=some (A,σ₁)->DR U d ds->Inv U V w->GR U G->U2 U md u->
  (∀(U':Ren) (w':World) (u':FrameMode),Inv U' σ₁ w'->eH U V w U' σ₁ w'->U2 U' A u'->LeavesIn Fence.wide m P fn tmps R [] u' w')->LeavesInM Fence.wide m P fn tmps R ds u w
 | [],ds,md,V,A,σ₁,U,w,u,h,E,hi,F,hm,hk=>by
  have h':some (md,V)=some (A,σ₁):=h;cases h';have:ds= []:=E;subst this;exact hk U w u hi (eH.refl U V w) hm
 | .mark b::d,ds,md,V,A,σ₁,U,w,u,h,E,hi,F,hm,hk=>by
  obtain⟨l,r,hl,rfl,I⟩:=E
  have h':(match V.m.get b with
    | some .mark=>qG P G ih d md (V.setObj b .dead)
    | _=>none)=some (A,σ₁):=h
  cases hb:V.m.get b with
  | none=>rw[hb] at h';cases h'
  | some o=>
   rw[hb] at h';cases o with
   | mark=>
    dsimp only at h';obtain⟨x,hx,K⟩:=hi.obj b _ l hb hl;have C:x= .deferred (some []):=K;subst C;obtain⟨inv,st⟩:=hi.putObj (o':=.dead) (x:=.deferred none) hb hl Z Z trivial;refine⟨hm.Rr,.inl ⟨l.de,w.putObj l.de (.deferred none),Z,run_takeDeferred hx,?_⟩⟩;exact qH M d r md _ A σ₁ U _ u h' I inv F hm fun U' w' u' L st'=>hk U' w' u' L (st.trans st')
   | _=>cases h'
 | .call _ _ _::_,ds,md,V,A,σ₁,U,w,u,h,E,hi,F,hm,hk=>by cases h
theorem vJ (I:Sound P G ih) {fn:Func} {m n:Nat} {t:PT Y} {d:List DE} {md:Md} {r:KR} {a:Act} {u:FrameMode} {R:Ending->World->Prop} (h:yI P G ih fn md t d V=r) (hne:∀n,r≠ .err n) (hi:Inv U V w) (K:GR U G) (Q:TR U t n a.tmps) (L:DR U d a.defers) (hm:U2 U md u)
  (M:∀(U':Ren) (w':World) (E:Ending),Inv U' r.heap w'->eH U V w U' r.heap w'->U0 U' r E->R E w'):LeavesInM Fence.wide m P fn a.tmps R a.defers u w:=by
 unfold yI at h;cases hl:qG P G ih d md V with
 | none=>grind
 | some q=>
  obtain⟨F,σ₁⟩:=q;rw[hl] at h;cases F with
  | ret=>
   dsimp only at h;cases N:ec P fn t σ₁ with
   | none=>grind
   | some v=>
    rw[N] at h;subst h;refine qH I d a.defers md V _ _ U w u hl L hi K hm fun U' w' u' C st' A=>?_
    have A:u'= .returning:=A;subst A;obtain⟨x,hx,hv⟩:=AW (P:=P) C (Q.mono<|st'.le hi) N;exact⟨x,hx,M U' w' _ C st' ⟨x,Z,hv⟩⟩
  | kG v=>
   dsimp only at h;subst h;refine qH I d a.defers md V _ _ U w u hl L hi K hm fun U' w' u' C st' A=>?_
   obtain⟨x,rfl,hv⟩:=A;exact M U' w' _ C st' ⟨x,Z,hv⟩
  | Xj v=>grind
theorem Bq (I:Sound P G ih) {f:Nat} {args:List Y} {r:KR} (h:nc P G ih f args V=r) (hne:∀n,r≠ .err n) (hi:Inv U V w) (K:GR U G) (hx:di U args xs.toList)
  (rl:Option Nat) (m:Nat) {R:Ending->World->Prop} (L:∀(U':Ren) (w':World) (E:Ending),Inv U' r.heap w'->eH U V w U' r.heap w'->U0 U' r E->R E w'):CallsIn (lM rl) m P f xs w R:=by
 refine tk rl ?_;unfold nc at h;cases hf:P.funcs[f]? with
 | none=>grind
 | some fn=>
 rw[hf] at h;dsimp only at h;cases hb:fn.body with
 | none=>grind
 | some c=>
 cases M:qd fn.ntmps args with
 | none=>grind
 | some t=>
 rw[hb,M] at h;dsimp only at h;refine callsIn_of_wp_marks hf hb trivial ?_;have ht:=GI M hx;cases hc:ih c t fn.ntmps [] none V with
 | err k=>grind
 | ok e t' d' σ₁=>
  rw[hc] at h;have hcode:=fun(Q:Exit->Act->World->Prop) N=>I.run c t fn.ntmps [] none V e t' d' σ₁ hc U w {tmps:=xs++Array.replicate (fn.ntmps-xs.size) undef,defers:=[]} none m Q hi K ht Z trivial N
  cases e with
  | normal=>
   refine hcode _ fun U' w' a' A st C F E u=>?_
   have u:E= .normal:=u;subst u;exact vJ I h hne A (K.mono<|st.le hi) C F (md:=.ret) Z fun ρ₂ w₂ E i₂ s₂ u=>L ρ₂ w₂ E i₂ (st.trans s₂) u
  | ret=>
   refine hcode _ fun U' w' a' A st C F E u=>?_
   have u:E= .ret:=u;subst u;exact vJ I h hne A (K.mono<|st.le hi) C F (md:=.ret) Z fun ρ₂ w₂ E i₂ s₂ u=>L ρ₂ w₂ E i₂ (st.trans s₂) u
  | kG v=>
   refine hcode _ fun U' w' a' A st C F E u=>?_
   obtain⟨x,rfl,hv⟩:=u;exact vJ I h hne A (K.mono<|st.le hi) C F (md:=.kG v) ⟨x,Z,hv⟩ fun ρ₂ w₂ E i₂ s₂ u=>L ρ₂ w₂ E i₂ (st.trans s₂) u
  | exit i=>grind
  | goto i=>grind
theorem nf (u:Sound P G ih) {f:Nat} {args:List Y} {V':D} {v:Y} (h:nc P G ih f args V= .ret v V') (hi:Inv U V w) (A:GR U G) (hx:di U args xs.toList)
  (rl:Option Nat) (m:Nat) {R:Ending->World->Prop} (C:∀(U':Ren) (w':World) (x:Value),Inv U' V' w'->eH U V w U' V' w'->VR U' v x->R (.returned x) w'):CallsIn (lM rl) m P f xs w R:=
 Bq u h (fun n h=>by cases h) hi A hx rl m fun U' w' E i s ⟨x,F,hv⟩=>by subst F;exact C U' w' x i s hv
theorem oy {U U':Ren} {v:Y} {x:Value} (h:sD v=true) (hv:VR U v x):VR U' v x:=by
 cases v<;>first | (simp[sD] at h;done) | (simp only[VR] at hv⊢;exact hv)
theorem tO {v:Y} {l:List Y} (h:e6 (v::l)=true):sD v=true/\e6 l=true:=by
 have h':(bif sD v then e6 l else false)=true:=h
 simp_all
theorem kW:∀{l:List Y},e6 l=true->∀v∈l,sD v=true
 | [],_,v,hv=>by cases hv
 | x::l,h,v,hv=>by
  obtain⟨h1,u⟩:=tO h;rcases mQ_.1 hv with rfl | hv
  ·exact h1
  exact kW u v hv
theorem wu {U U':Ren}:∀{vs:List Y} {xs:List Value},e6 vs=true->di U vs xs->di U' vs xs
 | [],xs,_,h=>by rw[h.dX];exact di.nil
 | v::vs,xs,h,hv=>by
  obtain⟨h1,u⟩:=tO h;obtain⟨x,r,rfl,h3,A⟩:=hv.cons_inv;exact di.cons (oy h1 h3)<|wu u A
theorem KJ {x y:Y} (h:Db x y=true):x=y:=by
 unfold Db at h;split at h
 ·grind
 ·rw[bA_,dS,decide_eq_true_eq] at h;rw[qv h.1,h.2]
 ·rw[yL,decide_eq_true_eq] at h;rw[h]
 ·rfl
 ·rfl
 ·rfl
 ·rfl
 ·rfl
 cases h
theorem mz:∀{xs ys:List Y},lL xs ys=true->xs=ys
 | [],[],_=>rfl
 | [],_::_,h=>by cases h
 | _::_,[],h=>by cases h
 | x::xs,y::ys,h=>by
  have h':(bif Db x y then lL xs ys else false)=true:=h;rw[bB] at h';split at h'
  ·rename_i hb;rw[KJ hb,mz h']
  cases h'
theorem z7 (v:Y):∀(n:Nat),JK n v=List.replicate n v
 | 0=>rfl
 | n+1=>by show v::JK n v=_;rw[z7 v n,List.replicate_succ]
theorem iK.inv {w w':World} (hk:iK w w') (hi:Inv U V w):Inv U V w'/\eH U V w U V w':=
 hi.of ⟨⟨hi.fresh,fun b l hb=>zh_ (hi.de b l hb) hk.size,fun b o l hb hl=>let ⟨x,hx,u⟩:=hi.obj b o l hb hl;⟨x,by rw[hk.same _<|hi.de b l hl];exact hx,u⟩,hi.inj⟩,
  ⟨fun _ _=>Z,nR_ _,hk.size,fun r A _=>hk.same r A,fun _ h _=>h,hk.tape,hk.os,hk.out⟩⟩
theorem Jf {b vb:Pos} {o o':cd} (x:Pos):(fZ V b o vb o').m.get x=if x=vb then some o' else if x=b then some o else none:=by
 unfold fZ;rw[PT.jI,PT.jI,PT.mF]
theorem Si (hi:Inv U V w) {b vb:Pos} {o o₁ o':cd} {l:Loc} (hb:V.m.get b=some o) (aa:V.m.get vb=some o') (hl:U b=some l) (ab:o.ro=o₁.ro)
  (ho:∀x,gz U l o x->gz U l o₁ x):Inv U (fZ V b o₁ vb o') w:=by
 have back:∀x q,(fZ V b o₁ vb o').m.get x=some q->∃q',V.m.get x=some q'/\q.ro=q'.ro/\((x=b/\q=o₁)∨q=q'):=fun x q h=>by
  rw[Jf] at h
  grind
 refine⟨⟨fun x hx=>⟨(hi.fresh x hx).1,?_⟩,hi.de,fun x q lx hx u=>?_,fun x y q r lx ly hx hy u A he hne=>?_⟩,hi.oW.size,hi.oW.same,fun r F ⟨x,q,l',h1,C,h3,E⟩=>?_⟩
 ·cases hq:(fZ V b o₁ vb o').m.get x with
  | none=>rfl
  | some q=>
   obtain⟨q',h',_⟩:=back x q hq;rw[(hi.fresh x hx).2] at h';cases h'
 ·obtain⟨q',h',_,h''⟩:=back x q hx;obtain⟨y,hy,F⟩:=hi.obj x q' lx h' u
  grind
 ·obtain⟨q',h1,C,_⟩:=back x q hx;obtain⟨r',h3,E,_⟩:=back y r hy;rw[C,E];exact hi.inj x y q' r' lx ly h1 h3 u A he hne
 obtain⟨q',h5,I,_⟩:=back x q h1;exact hi.oW.no r F ⟨x,q',l',h5,by rw[<-I];exact C,h3,E⟩
theorem Lm (hi:Inv U V w) {b vb:Pos} {cells cells' vc:List Y} {l lv:Loc} (hb:V.m.get b=some (.row cells e false)) (L:V.m.get vb=some (.row vc ve false)) (Q:U b=some l) (A:U vb=some lv)
  (hne:b≠vb) (i₁:Inv ρ₁ σ₁ w₁) (s₁:eH U (fZ V b (.row cells' e false) vb (.row vc ve false)) w ρ₁ σ₁ w₁) {k:Nat}
  (g₁:σ₁.m.get b₁=some (.row cs₁ e false)) (hl₁:ρ₁ b₁=some l₁) (gv:σ₁.m.get vb=some (.row vc ve false)) (hne₁:b₁≠vb) (ao:e6 vc=true) (hk:o₁+k<=cs₁.length) (ap:e6 ((cs₁.drop o₁).take k)=true):
  CL (U.with V.next ⟨l₁.de,l₁.sh+o₁,l₁.cells-o₁⟩) ((V.drop b).alloc (.row ((cs₁.drop o₁).take k) e false)) w₁/\
   eH U V w (U.with V.next ⟨l₁.de,l₁.sh+o₁,l₁.cells-o₁⟩) ((V.drop b).alloc (.row ((cs₁.drop o₁).take k) e false)) w₁:=by
 have hle:=hi.xY ⟨l₁.de,l₁.sh+o₁,l₁.cells-o₁⟩;have M:((V.drop b).alloc (.row ((cs₁.drop o₁).take k) e false)).m.get V.next=some (.row ((cs₁.drop o₁).take k) e false):=PT.dR _ _ _
 have ac:∀x,x≠V.next->((V.drop b).alloc (.row ((cs₁.drop o₁).take k) e false)).m.get x=if x=b then none else V.m.get x:=fun x hx=>by
  show((V.m.put none b).put _ V.next).get x=_;rw[PT.dD _ _ _ _ hx,PT.jI]
 have oW:∀x q,x≠V.next->((V.drop b).alloc (.row ((cs₁.drop o₁).take k) e false)).m.get x=some q->x≠b/\V.m.get x=some q:=fun x q hx h=>by
  simp_all
 have hold:∀x lx,x≠V.next->(U.with V.next ⟨l₁.de,l₁.sh+o₁,l₁.cells-o₁⟩) x=some lx->U x=some lx:=fun x lx hx h=>by rwa[Ren.ej U _ hx] at h
 have W:∀x:Pos,x.num<V.next.num->x≠V.next:=fun x hx e=>by simp_all
 have R:∀r,Wr U (fZ V b (.row cells' e false) vb (.row vc ve false)) r->r=l.de∨r=lv.de:=fun r ⟨x,q,lx,h1,I,h3,E⟩=>by
  rw[Jf] at h1
  grind
 have wrs:∀r,Wr U (fZ V b (.row cells' e false) vb (.row vc ve false)) r->Wr U V r:=fun r h=>by
  rcases R r h with rfl | rfl
  ·exact⟨b,_,l,hb,Z,Q,Z⟩
  exact⟨vb,_,lv,L,Z,A,Z⟩
 have away:∀x q lx,x≠b->x≠vb->V.m.get x=some q->U x=some lx->lx.de≠l.de/\lx.de≠lv.de:=fun x q lx h1 I h3 E=>by
  constructor
  ·intro he;have:=(hi.inj x b q _ lx l h3 hb E Q he h1).2;simp[cd.ro] at this
  intro he;have:=(hi.inj x vb q _ lx lv h3 L E A he I).2;simp[cd.ro] at this
 have am:∀x q lx,x≠b->V.m.get x=some q->U x=some lx->lx.de≠l₁.de:=fun x q lx h1 h3 E he=>by
  have hlt:=hi.de x lx E;have hw:Wr ρ₁ σ₁ lx.de:=⟨b₁,_,l₁,g₁,Z,hl₁,he.symm⟩
  by_cases I:x=vb
  ·subst I;rw[A] at E;cases E;have F:ρ₁ x=some lv:=s₁.ext x (hi.HF A) |>.trans A;have:=(i₁.inj b₁ x _ _ l₁ lv g₁ gv hl₁ F he.symm hne₁).1;simp[cd.ro] at this
  obtain⟨a1,a2⟩:=away x q lx h1 I h3 E;rcases R _ (s₁.wr _ hw hlt) with h | h
  ·exact a1 h
  exact a2 h
 have flatObj:∀{l':Loc} {c:List Y} {e':Nat} {y:Obj} {ρa ρb:Ren},e6 c=true->gz ρa l' (.row c e' false) y->gz ρb l' (.row c e' false) y:=fun hc ho=>by
  obtain⟨c',fr,h1,I,h3,E,h5⟩:=ho;exact⟨c',fr,h1,I,h3,fun i v hv=>let ⟨z,hz,X⟩:=E i v hv;⟨z,hz,oy (kW hc v<|gB_ hv) X⟩,h5⟩
 constructor
 ·refine⟨fun x hx=>?_,fun x lx u=>?_,fun x q lx hx u=>?_,fun x y q r lx ly hx hy u aa he T=>?_⟩
  ·have K:V.next.num+1<=x.num:=by simpa [D.alloc,D.drop,Pos.iR] using hx
   have C:x≠V.next:=fun e=>by subst e;omega
   have hf:=hi.fresh x oM
   grind [Ren.ej]
  ·by_cases C:x=V.next
   ·subst C;rw[Ren.cU] at u;cases u;exact i₁.de b₁ l₁ hl₁
   exact zh_ (hi.de x lx<|hold x lx C u) s₁.size
  ·by_cases C:x=V.next
   ·subst C;rw[M] at hx;rw[Ren.cU] at u;cases hx;cases u;obtain⟨c,fr,h1,I,h3,E,h5⟩:=i₁.row g₁ hl₁;refine⟨_,h1,c,fr,Z,?_,?_,fun i v hv=>?_,fun _ j hj=>h5 Z j (by grind)⟩
    ·grind
    ·grind
    grind [oy,kW]
   obtain⟨aq,K⟩:=oW x q C hx;have hlx':=hold x lx C u
   by_cases ab:x=vb
   ·subst ab;rw[L] at K;cases K;rw[A] at hlx';cases hlx';have F:ρ₁ x=some lv:=(s₁.ext x<|hi.HF A).trans A;obtain⟨y,hy,N⟩:=i₁.obj x _ lv gv F
    grind
   obtain⟨y,hy,N⟩:=hi.obj x q lx K hlx';refine⟨y,?_,N.mono hle⟩;rw[s₁.frame _ (hi.de x lx hlx') (fun h=>?_)]
   ·exact hy
   grind
  by_cases e1:x=V.next<;>by_cases e2:y=V.next
  ·simp_all
  ·grind [Ren.cU]
  ·grind [Ren.cU]
  exact hi.inj x y q r lx ly (oW x q e1 hx).2 (oW y r e2 hy).2 (hold x lx e1 u) (hold y ly e2 aa) he T
 refine⟨fun x hx=>Ren.ej U _ (W x hx),by simp[D.alloc,D.drop,Pos.iR],s₁.size,fun r N hn=>s₁.frame r N fun h=>hn (wrs r h),?_,s₁.tape,s₁.os,s₁.out⟩;rintro r ⟨x,q,lx,h1,I,h3,rfl⟩ N
 by_cases e1:x=V.next
 ·subst e1;rw[Ren.cU] at h3;cases h3;exact wrs _ (s₁.wr _ ⟨b₁,_,l₁,g₁,Z,hl₁,Z⟩ N)
 exact⟨x,q,lx,(oW x q e1 h1).2,I,hold x lx e1 h3,Z⟩
theorem Hs (hi:Inv U V w) {b vb:Pos} {cells cells' vc:List Y} {l lv:Loc} (hb:V.m.get b=some (.row cells e false)) (u:V.m.get vb=some (.row vc ve false)) (A:U b=some l) (C:U vb=some lv)
  (hne:b≠vb) (i₁:Inv ρ₁ σ₁ w₁) (s₁:eH U (fZ V b (.row cells' e false) vb (.row vc ve false)) w ρ₁ σ₁ w₁) {k:Nat}
  (g₁:σ₁.m.get b₁=some (.row cs₁ e false)) (hl₁:ρ₁ b₁=some l₁) (gv:σ₁.m.get vb=some (.row vc ve false)) (hne₁:b₁≠vb) (E:e6 vc=true) (hk:o₁+k<=cs₁.length) (F:e6 ((cs₁.drop o₁).take k)=true):
  Inv (U.with V.next ⟨l₁.de,l₁.sh+o₁,l₁.cells-o₁⟩) ((V.drop b).alloc (.row ((cs₁.drop o₁).take k) e false)) w₁/\
   eH U V w (U.with V.next ⟨l₁.de,l₁.sh+o₁,l₁.cells-o₁⟩) ((V.drop b).alloc (.row ((cs₁.drop o₁).take k) e false)) w₁:=hi.of (Lm hi hb u A C hne i₁ s₁ g₁ hl₁ gv hne₁ E hk F)
theorem HD {r:KR} {v:Y} {V':D} (h:vU r= .ret v V'):r= .ret v V':=by
 unfold vU at h
 grind
theorem HC (r:KR) (v:Y) (V':D):vU r≠ .kG v V':=by
 unfold vU
 grind
theorem Hi (hS:Sound P G ih) {f:Nat} {args:List Y} {V':D} {v:Y} (h:NP P G ih f args V= .ret v V') (hi:Inv U V w) (hg:GR U G) (hx:di U args xs.toList)
  (rl:Option Nat) (m:Nat) {R:Ending->World->Prop} (hR:∀(U':Ren) (w':World) (x:Value),Inv U' V' w'->eH U V w U' V' w'->VR U' v x->R (.returned x) w'):CallsIn (lM rl) m P f xs w R:=by
 unfold NP at h;split at h
 ·rename_i b off n sz i vb voff q mc;split at h
  ·rename_i cells e vc ve hb L;rw[bB] at h;split at h
   ·rename_i hc;simp only[bA_,nE_,Nat.beq_eq,cC] at hc;obtain⟨hne,ba,ab,bb,ac,hlen⟩:=hc;subst ab;have M:b≠vb:=fun e=>by subst e;rw[pG] at hne;simp at hne
    split at h
    ·rename_i A r1 n2 r2 am ao;rw[bB] at h;split at h
     ·rename_i hq;rw[bA_] at hq;have en:=nB hq.1;have er:=mz hq.2;subst en;subst er;cases h;obtain⟨x1,rr,e1,hs,ap⟩:=hx.cons_inv;obtain⟨x2,rr',rfl,bc,aq⟩:=ap.cons_inv;obtain⟨x3,rr'',rfl,ar,ax⟩:=aq.cons_inv;have:=ax.dX;subst this;simp only[VR] at hs;obtain⟨l,hl,hd⟩:=hs
      have aE:∃c,x1= .slice (some ⟨l.de,l.sh+off,none⟩) n c/\n<=c/\off+c*sz=l.cells:=by
       grind
      obtain⟨c,rfl,bd,aa⟩:=aE;have hvv':=ar;simp only[VR] at hvv';obtain⟨lv,a0,_⟩:=hvv'
      have go:∀(cells':List Y) (cap:oY) (okc:oY->Nat->Bool),(∀x,gz U l (.row cells e false) x->gz U l (.row cells' e false) x)->
        xL vb vc ve e sz (nc P G ih f [.slice b off n cap,i,.slice vb voff 1 (.known mc)]<|fZ V b (.row cells' e false) vb (.row vc ve false)) okc=some (A,r1)->
        VR U (.slice b off n cap) (.slice (some ⟨l.de,l.sh+off,none⟩) n c)->
        (∀E C F A l1 I x,okc E A=true->1<=A->I C=some l1->VR I (.slice C F A E) x->∃c',x= .slice (some ⟨l1.de,l1.sh+F,none⟩) A c'/\A<=c'/\F+c'*sz=l1.cells)->
        CallsIn (lM rl) m P f xs w R:=by
       intro cells' cap okc N u a9 a1;unfold xL at u;split at u
       ·rename_i C F be E σ1 K;split at u
        ·rename_i bf bg bi bl g1 gv;rw[bB] at u;split at u
         ·rename_i Q;simp only[bA_,nE_,Nat.beq_eq,cC] at Q;obtain⟨k1,k2,k3,k4,k5,k6,k7,k8⟩:=Q;cases u;have T:C≠vb:=fun e=>by subst e;rw[pG] at k2;simp at k2
          have ev:=mz k3;subst ev;subst k4;subst k5;have hiL:=Si hi (o₁:=.row cells' e false) hb L hl Z N;refine nf hS K hiL hg ?_ rl m fun I w1 x i1 s1 W=>?_
          ·grind [di.cons]
          obtain⟨l1,X⟩:∃l1,I C=some l1:=by
           cases E<;>simp only[VR] at W
           ·grind
           ·grind
           grind
          obtain⟨c',rfl,a2,bm⟩:=a1 E C F A l1 I x k1 k6 X W;rw[dT,eB] at k8 hR;obtain⟨iJ,sJ⟩:=Hs (k:=A*sz) hi hb L hl a0 M i1 s1 g1 X gv T ac k7 k8;refine hR _ w1 _ iJ sJ ?_;simp only[VR];refine⟨_,Ren.cU _ _ _,.inl ⟨c',Z,a2,?_⟩⟩
          grind
         cases u
        cases u
       cases u
      by_cases a3:c=n
      ·subst a3;refine go cells (.known c) (Hr sz) (fun _ h=>h) am (by simp only[VR];simp_all) fun E C F A l1 I x h1 h2 h3 h4=>?_
       unfold Hr at h1
       grind [nB,VR]
      have a4:n+1<=c:=by omega
      refine go (gV (takeN cells (off+n*sz))<|JK sz .any) (.least (Nat.succ n) sz) (Dl sz) (fun x ho=>?_) ao (by simp only[VR];simp_all) fun E C F A l1 I x h1 h2 h3 h4=>?_
      ·obtain⟨cc,fr,h1,h2,h3,h4,h5⟩:=ho;have hmul:(n+1)*sz<=c*sz:=nM_ _ a4;have bo:(n+1)*sz=n*sz+sz:=Nat.succ_mul n sz;refine⟨cc,fr,h1,h2,?_,fun j v hv=>?_,h5⟩
       ·rw[dU,dT,z7,lA_,lT_,List.length_replicate];omega
       rw[dU,dT,z7] at hv
       by_cases hj:j<off+n*sz
       ·grind
       have a5:j<(cells.take (off+n*sz)++List.replicate sz Y.any).length:=(gA.1 hv).1;rw[lA_,lT_,List.length_replicate] at a5;rw[gR_ (by simp_all),List.getElem?_replicate] at hv;split at hv
       ·cases hv;have:l.sh+j<cc.size:=by omega
        exact⟨cc[l.sh+j],aG_ this,by simp only[VR]⟩
       cases hv
      unfold Dl at h1;split at h1
      ·rename_i a s;rw[bA_,nE_] at h1
       grind [nB,VR]
      cases h1
     cases h
    cases h
   cases h
  cases h
 exact nf hS h hi hg hx rl m hR
theorem GR.size (hi:Inv U V w) (u:GR U G):G.gl<=w.heap.size:=by
 cases aa:G.gl with
 | zero=>exact Nat.zero_le _
 | succ g=>
  obtain⟨c,hc⟩:=u g oM;have:=hi.de _ _ hc;exact this
theorem uA (hi:Inv U V w) (E:GR U G):∀(l:List (Nat×List Y)),kB G.gl V l=true->∀x∈l,ll w x
 | [],_,x,hx=>by cases hx
 | y::l,h,x,hx=>by
  have h':(bif Nat.ble (Nat.succ y.1) G.gl then(match V.m.get y.1 with
   | some (.row cells _ true)=>bif e6 y.2 then(bif lL cells y.2 then kB G.gl V l else false) else false
   | _=>false) else false)=true:=h
  rw[bB] at h';split at h'
  ·rename_i u;rw[nE_] at u;split at h'
   ·rename_i cells e hb;rw[bB] at h';split at h'
    ·rename_i hf;rw[bB] at h';split at h'
     ·rename_i he;have:=mz he;subst this;rcases mQ_.1 hx with rfl | hx
      ·obtain⟨cn,hc⟩:=E x.1 u;obtain⟨c,fr,h1,F,h3,I,_⟩:=hi.row hb hc;have A:c.size=cn:=by simpa using F
       have C:x.2.length<=cn:=h3;refine⟨c,e,fr,h1,by rw[A];exact C,fun i v hv=>?_⟩;obtain⟨z,K,aa⟩:=I i v hv;simp only[nA_] at K
       grind [oy,kW]
      exact uA hi E l h' x hx
     cases h'
    cases h'
   cases h'
  cases h'
def Q0 (V:D) (g:Nat):TypeId:=
 match V.m.get g with
 | some (.row _ e _)=>e
 | _=>0
theorem zt {gl:Nat}:∀(l:List (Nat×List Y)),kB gl V l=true->∀x∈l,V.m.get x.1=some (.row x.2 (Q0 V x.1) true)
 | [],_,x,hx=>by cases hx
 | y::l,h,x,hx=>by
  have h':(bif Nat.ble (Nat.succ y.1) gl then(match V.m.get y.1 with
   | some (.row cells _ true)=>bif e6 y.2 then(bif lL cells y.2 then kB gl V l else false) else false
   | _=>false) else false)=true:=h
  rw[bB] at h';split at h'
  ·split at h'
   ·rename_i cells e hb;rw[bB] at h';split at h'
    ·rw[bB] at h';split at h'
     ·rename_i he;have:=mz he;rcases mQ_.1 hx with rfl | hx
      ·unfold Q0;rw[hb,this]
      exact zt l h' x hx
     cases h'
    cases h'
   cases h'
  cases h'
theorem s8 (C:Sound P G ih) {f:Nat} {args:List Y} {V':D} {v:Y} (h:j0 P G ih f args V= .ret v V') (hi:Inv U V w) (A:GR U G) (hx:di U args xs.toList)
  (rl:Option Nat) (m:Nat) {R:Ending->World->Prop} (E:∀(U':Ren) (w':World) (x:Value),Inv U' V' w'->eH U V w U' V' w'->VR U' v x->R (.returned x) w'):CallsIn (lM rl) m P f xs w R:=by
 unfold j0 at h;cases hk:G.D9 f args V with
 | some u=>
  rw[hk] at h;obtain⟨uv,us⟩:=u;dsimp only at h;cases h;refine tk rl<|callsIn_wide.2 ?_;refine(C.cx.D9 f args V v V' hk U w xs hi A hx).mono fun e w' ⟨x,U',he,hv,i',s'⟩=>?_
  subst he;exact E U' w' x i' s' hv
 | none=>
 rw[hk] at h;dsimp only at h;cases F:G.PB f args with
 | some u=>
  rw[F] at h;dsimp only at h;rw[bB] at h;split at h
  ·rename_i hf;simp only[bA_] at hf;obtain⟨I,K,L⟩:=hf;cases h;refine tk rl<|callsIn_wide.2 ?_;refine(C.cx.PB f args v F w xs (GR.size hi A) ⟨hi.oW.size,hi.oW.same⟩ (uA hi A _ L)<|wu I hx).mono fun e w' ⟨x,he,hv,hk⟩=>?_
   subst he;obtain⟨i',s'⟩:=hk.inv hi;exact E U w' x i' s'<|oy K hv
  cases h
 | none=>
  rw[F] at h;dsimp only at h;split at h
  ·cases h
  rw[bB] at h;split at h
  ·have h:=HD h;unfold NQ at h;rw[bB] at h
   grind [nf,Hi]
  exact nf C h hi A hx rl m E
theorem Ni (A:Sound P G ih) {f:Nat} {args:List Y} {V':D} {v:Y} (h:j0 P G ih f args V= .kG v V') (hi:Inv U V w) (C:GR U G) (hx:di U args xs.toList)
  (rl:Option Nat) (m:Nat) {R:Ending->World->Prop} (F:∀(U':Ren) (w':World) (x:Value),Inv U' V' w'->eH U V w U' V' w'->VR U' v x->R (.panicked [{v:=x,recovered:=false}]) w'):CallsIn (lM rl) m P f xs w R:=by
 unfold j0 at h;cases hk:G.D9 f args V with
 | some u=>grind
 | none=>
 rw[hk] at h;dsimp only at h;split at h
 ·grind
 split at h
 ·cases h
 rw[bB] at h;split at h
 ·exact absurd h<|HC _ _ _
 exact Bq A h (fun n h=>by cases h) hi C hx rl m fun U' w' E i s ⟨x,I,hv⟩=>by subst I;exact F U' w' x i s hv
theorem BT (e:Ex) (hp:zr e=false):(tw e).isNone=Ay e:=by cases e<;>first | rfl | cases hp
theorem WA.Q8 {e:Ex} {E:Exit} (hp:zr e=false) (h:WA U e E):E=Ev.Q8 e:=by cases e<;>first | exact h | cases hp
theorem H8 {l:Nat} {R:Ending->World->Prop} {e:Ex} (hp:zr e=false) {a:Act} (h:∃v w',(Instr.endRound l<|tw e).run P w= .ok v w'/\R (.returned v) w'):roundPost P l R (Q8 e) a w:=by
 cases e<;>first | exact h | cases hp
theorem FQ (hS:Sound P G ih) {b:Pos} {l:Loc} {args:List Y} {V':D} {v:Y} (h:kI ih b args V= .ret v V') (hi:Inv U V w) (hg:GR U G) (hx:di U args xs.toList) (hl:U b=some l)
  (rl:Option Nat) (m:Nat) {R:Ending->World->Prop} (hR:∀(U':Ren) (w':World) (x:Value),Inv U' V' w'->eH U V w U' V' w'->VR U' v x->R (.returned x) w'):
  ∃f tmps assign body,(Instr.yield l.de xs).run P w= .ok (.round l.de f tmps assign body) w/\RoundIn (lM rl) m P l.de f tmps assign body w R:=by
 unfold kI at h;cases hb:V.m.get b with
 | none=>rw[hb] at h;cases h
 | some o=>
 rw[hb] at h;cases o with
 | loop state pending tmps n params assign body df=>
  dsimp only at h;cases hp:qT n params args tmps with
  | none=>rw[hp] at h;cases h
  | some t=>
  rw[hp] at h;dsimp only at h;obtain⟨x,hh,fn,tmps',l',rfl,a3,aE⟩:=hi.obj b _ l hb hl;obtain⟨hlen,ht⟩:=uH params args tmps t tmps' xs.toList hp aE hx;refine⟨fn,_,assign,body,run_yield hh (by simpa using hlen.symm),?_⟩
  have M:((params.toArray.zip xs).foldl (fun tmps (t,a)=>tmps.setIfInBounds t a) tmps')=(params.zip xs.toList).foldl (fun tmps (t,a)=>tmps.setIfInBounds t a) tmps':=by
   rw[<-Array.foldl_toList,Array.toList_zip]
  refine roundIn_of_wpIn (nq rl _) ?_;rw[Ra];dsimp only;rw[M];cases hc:ih assign t n [] (some b) V with
  | err k=>rw[hc] at h;cases h
  | ok e t₁ d₁ σ₁=>
  rw[hc] at h;cases e with
  | normal=>
   cases d₁ with
   | nil=>
    dsimp only at h;refine hS.run assign t n [] (some b) V _ t₁ [] σ₁ hc U w _ (some l.de) m _ hi hg ht Z ⟨l,hl,Z⟩ fun ρ₁ w₁ a₁ hi₁ st₁ ht₁ a0 E hE=>?_
    have hE:E= .normal:=hE;subst hE;have hl₁:=st₁.le hi b l hl;have hg₁:=hg.mono (st₁.le hi);show∃w₂,_;cases hb₁:σ₁.m.get b with
    | none=>rw[hb₁] at h;cases h
    | some o₁=>
    rw[hb₁] at h;cases o₁ with
    | loop L p₁ I n₁ params₁ assign1 A Q=>
     cases L with
     | ready=>
      dsimp only at h;obtain⟨x₁,hh₁,T,C,W,rfl,X,aa⟩:=hi₁.obj b _ l hb₁ hl₁;obtain⟨inv₂,st₂⟩:=hi₁.putObj (o':=.loop .busy p₁ I n₁ params₁ assign1 A Q) hb₁ hl₁ Z Z (x:=.loop {state:=.busy,pending:=p₁,fn:=T,tmps:=C,params:=params₁.toArray,assign:=assign1,body:=A,defers:=W.de}) ⟨T,C,W,Z,X,aa⟩;refine⟨_,run_beginRound hh₁ Z,?_⟩;cases hc₂:ih body t₁ n [] (some b) (σ₁.setObj b (.loop .busy p₁ I n₁ params₁ assign1 A Q)) with
      | err k=>rw[hc₂] at h;cases h
      | ok e₂ t₂ d₂ σ₂=>
      rw[hc₂] at h;cases d₂ with
      | cons _ _=>cases h
      | nil=>
      dsimp only at h;cases u:zr e₂ with
      | true=>rw[u] at h;cases h
      | false=>
      rw[u] at h;simp only[cond_false] at h;refine hS.run body t₁ n [] (some b) _ e₂ t₂ [] σ₂ hc₂ ρ₁ _ a₁ (some l.de) m _ inv₂ hg₁ ht₁ a0 ⟨l,hl₁,Z⟩ fun ρ₃ w₃ a₃ hi₃ ab a4 a5 E hE=>?_
      have hE:=hE.Q8 u;subst hE;have hl₃:=ab.le inv₂ b l hl₁;cases hb₃:σ₂.m.get b with
      | none=>rw[hb₃] at h;cases h
      | some o₃=>
      rw[hb₃] at h;cases o₃ with
      | loop ax p₃ N n₃ params₃ assign3 K a1=>
       dsimp only at h;cases h;obtain⟨x₃,hh₃,ac,F,am,rfl,ao,ap⟩:=hi₃.obj b _ l hb₃ hl₃;have O:(if(tw e₂).isNone then LoopState.ready else .done)=r7 e₂:=by cases e₂<;>first | rfl | cases u
       obtain⟨aq,a2⟩:=hi₃.putObj (o':=.loop (r7 e₂) (tw e₂) N n₃ params₃ assign3 K a1) hb₃ hl₃ Z Z
        (x:=.loop {state:=r7 e₂,pending:=tw e₂,fn:=ac,tmps:=F,params:=params₃.toArray,assign:=assign3,body:=K,defers:=am.de}) ⟨ac,F,am,Z,ao,ap⟩
       refine H8 u ⟨.bool<|Ay e₂,_,?_,hR ρ₃ _ _ aq (((st₁.trans st₂).trans ab).trans a2) (by simp only[VR])⟩;rw[run_endRound _ hh₃,BT _ u];have ar:(if Ay e₂=true then LoopState.ready else .done)=r7 e₂:=by rw[<-BT _ u];exact O
       rw[ar]
      | _=>cases h
     | _=>cases h
    | _=>cases h
   | cons _ _=>cases h
  | _=>cases h
 | _=>cases h
theorem KH (A:Sound P G ih) {o:Oper} {r:HR} {v:Y} {V':D} (hi:Inv U V w) (C:GR U G) (E:AH P U V w r res) (h:lr P G ih r= .ret v V') (rl:Option Nat) (m:Nat) {a:Act} {next:Act->World->Prop} {Q:Exit->Act->World->Prop}
  (hn:∀(U':Ren) (w':World) (x:Value),Inv U' V' w'->eH U V w U' V' w'->VR U' v x->next (a.put o.dst x) w'):o.uponIn (lM rl) m P a next Q res:=by
 cases E with
 | val hv u st=>
  cases h;rw[Oper.uponIn_value]
  grind
 | skip u st=>
  cases h;rw[Oper.uponIn_skip];exact hn _ _ _ u st xF
 | enter hv=>
  rw[Oper.uponIn_enter];exact⟨rK rl m,s8 A h hi C hv rl _ fun U' w' x i s q=>hn U' w' x i s q⟩
 | round hv hl F=>
  subst F
  obtain⟨f,tmps,assign,body,h1,I⟩:=FQ A h hi C hv hl rl (m-1) (R:=fun
   | .returned v,w''=>next (a.put o.dst v) w''
   | .panicked chain,w''=>Q (.panic chain) a w''
   | .outgrown,_=>LetsOut Q) (fun U' w' x i s q=>hn U' w' x i s q)
  rw[h1,Oper.uponIn_round];exact⟨rK rl m,I⟩
 | kG hv=>cases h
theorem H7 {l:Pos} {args:List Y} {v:Y} {V':D}:kI ih l args V≠ .kG v V':=by
 intro h;unfold kI at h
 repeat' (first | (cases h;done) | (rw[bB] at h) | split at h)
theorem Q1 (A:Sound P G ih) {o:Oper} {r:HR} {v:Y} {V':D} (hi:Inv U V w) (C:GR U G) (E:AH P U V w r res) (h:lr P G ih r= .kG v V') (rl:Option Nat) (m:Nat) {a:Act} {next:Act->World->Prop} {Q:Exit->Act->World->Prop}
  (hn:∀(U':Ren) (w':World) (x:Value),Inv U' V' w'->eH U V w U' V' w'->VR U' v x->Q (.panic [{v:=x,recovered:=false}]) a w'):o.uponIn (lM rl) m P a next Q res:=by
 cases E with
 | val hv u st=>cases h
 | skip u st=>cases h
 | enter hv=>
  rw[Oper.uponIn_enter];exact⟨rK rl m,Ni A h hi C hv rl _ fun U' w' x i s q=>hn U' w' x i s q⟩
 | round hv hl hr=>exact absurd h H7
 | kG hv=>
  cases h
  grind [Oper.uponIn_panic,eH.refl]
theorem Da {r:HR} {v:Y} {V':D} (h:lr P G ih r= .kG v V') (n:Nat):r≠ .err n:=by
 intro e;subst e;cases h
theorem Rw (u:Sound P G ih) {o:Oper} {a:Act} {v:Y} {V':D} (hi:Inv U V w) (A:GR U G) (C:ER U ev a.eval o.op) (h:lr P G ih (dM P G ev V o.op)= .kG v V') (rl:Option Nat) (m:Nat) {next:Act->World->Prop} {Q:Exit->Act->World->Prop}
  (hn:∀(U':Ren) (w':World) (x:Value),Inv U' V' w'->eH U V w U' V' w'->VR U' v x->Q (.panic [{v:=x,recovered:=false}]) a w'):o.wpIn (lM rl) m P a w next Q:=by
 have hne:=Da h;refine⟨fun f _=>nq rl f,?_⟩;rw[Oper.semAt_eq _ _ _<|wY hne];exact Q1 u hi A (Fw u.cx.ov hi C Z hne) h rl m hn
theorem EN {r:HR} {v:Y} {V':D} (h:lr P G ih r= .ret v V') (n:Nat):r≠ .err n:=by
 intro e;subst e;cases h
theorem Fv (u:Sound P G ih) {o:Oper} {a:Act} {v:Y} {V':D} (hi:Inv U V w) (A:GR U G) (C:ER U ev a.eval o.op) (h:lr P G ih (dM P G ev V o.op)= .ret v V') (rl:Option Nat) (m:Nat) {next:Act->World->Prop} {Q:Exit->Act->World->Prop}
  (hn:∀(U':Ren) (w':World) (x:Value),Inv U' V' w'->eH U V w U' V' w'->VR U' v x->next (a.put o.dst x) w'):o.wpIn (lM rl) m P a w next Q:=by
 have hne:=EN h;refine⟨fun f _=>nq rl f,?_⟩;rw[Oper.semAt_eq _ _ _<|wY hne];exact KH u hi A (Fw u.cx.ov hi C Z hne) h rl m hn
theorem vV {ih:jX} (I:Sound P G ih) {ops:Array Oper} {n m:Nat} {d:List DE} (rl:Option Nat) {Q:Exit->Act->World->Prop} {e:Ex} {t':PT Y} {d':List DE} {V':D}:
  ∀(l:List Oper) (i:Nat),ops.toList.drop i=l->∀(t:PT Y) (V:D) (U:Ren) (w:World) (a:Act),EZ d (uE P G ih ops n d l t V)= .ok e t' d' V'->Inv U V w->GR U G->TR U t n a.tmps->DR U d a.defers->
   (∀(U':Ren) (w':World) (a':Act),Inv U' V' w'->eH U V w U' V' w'->TR U' t' n a'.tmps->DR U' d' a'.defers->Qx Q U' e a' w')->wpOpsIn (lM rl) m P ops Q (List.range' i l.length) a w
 | [],i,hl,t,V,U,w,a,h,hi,A,u,C,E=>by
  have h':CR.ok .normal t d V= .ok e t' d' V':=h;cases h';exact E U w a hi (eH.refl _ _ _) u C _ Z
 | o::l,i,hl,t,V,U,w,a,h,hi,A,u,C,E=>by
  have K:ops[i]? =some o:=by
   rw[<-aT_];have:(ops.toList.drop i)[0]? =some o:=by rw[hl];rfl
   simpa using this
  have F:ops.toList.drop (i+1)=l:=by
   rw[<-zl_,hl];rfl
  have h':EZ d (iS P G ih true ops n o t V<|uE P G ih ops n d l)= .ok e t' d' V':=h;unfold iS at h';simp only[zc_,List.range'_succ,wpOpsIn,K];cases hw:bH ops t o with
  | none=>rw[hw] at h';cases h'
  | some b=>
   rw[hw] at h';rw[D0 hw u];cases b with
   | false=>
    dsimp only at h';cases hp:dA t n o.dst unit with
    | none=>rw[hp] at h';cases h'
    | some t₁=>
     rw[hp] at h';simp only[zi_,if_false];exact⟨fun f _=>nq rl f,vV I rl l (i+1) F t₁ V U w _ h' hi A (u.put hp xF) (by rw[put_defers];exact C) E⟩
   | true=>
    dsimp only at h';cases he:lr P G ih (dM P G (bA G t) V o.op) with
    | err k=>rw[he] at h';cases h'
    | kG v σ₁=>
     rw[he] at h';have h':CR.ok (.kG v) t d σ₁= .ok e t' d' V':=h';cases h';simp only[if_true];refine Rw I hi A (SN _ A u) he rl m fun ρ₁ w₁ x hi₁ st₁ hv=>?_
     have hle:=st₁.le hi;exact E ρ₁ w₁ a hi₁ st₁ (u.mono hle) (C.mono hle) _ ⟨x,Z,hv⟩
    | ret v σ₁=>
     rw[he] at h';dsimp only at h';cases hp:dA t n o.dst v with
     | none=>rw[hp] at h';cases h'
     | some t₁=>
      rw[hp] at h';simp only[if_true];refine Fv I hi A (SN _ A u) he rl m fun ρ₁ w₁ x hi₁ st₁ hv=>?_
      have hle:=st₁.le hi
      exact vV I rl l (i+1) F t₁ σ₁ ρ₁ w₁ _ h' hi₁ (A.mono hle) ((u.mono hle).put hp hv) (by rw[put_defers];exact C.mono hle)
       fun U' w' a' i' s'=>E U' w' a' i' (st₁.trans s')
end
variable {α:Type} {ops:Array Oper} {V:D} {j:Nat} {P:Program}
theorem zR {V':D} (he:∀(b:Pos) (o:cd),V.m.get b=some o->V'.m.get b=some o) {u:Option TypeId} {x:Option Y} {v:Y} (h:tD P u V x=some v):tD P u V' x=some v:=by
 unfold tD at h⊢
 grind
theorem LP {V':D} {op:Op} {v:Y} (he:∀b o,V.m.get b=some o->V'.m.get b=some o) (h:gG P ev V op=some v):gG P ev V' op=some v:=by
 cases op with
 | load t x=>
  grind [gG]
 | lookup t x i ok=>
  simp only[gG] at h⊢
  grind
 | call c=>
  grind [gG]
 | convert src dst x=>
  simp only[gG] at h⊢;split at h
  ·grind
  ·split at h
   ·rw[bB] at h⊢;split at h
    ·cases h
    rename_i hc;rw[if_neg hc];exact zR he h
   cases h
  ·rw[bB] at h⊢;split at h
   ·rename_i hc;rw[if_pos hc];exact zR he h
   cases h
  cases h
 | _=>exact h
theorem se {i:Nat}:waits ops i j=true↔∃o,ops[i]? =some o/\∃e∈o.after,Region.binds .any e=true/\e.on=j:=by
 unfold waits;cases h:ops[i]? with
 | none=>simp
 | some o=>
  simp only[Option.map_some,Option.getD_some,oJ_,exists_eq_left',bA_,beq_iff_eq,Array.any_iff_exists];constructor
  ·grind
  rintro ⟨e,he,h1⟩;obtain⟨q,hq,rfl⟩:=Array.getElem_of_mem he
  grind
structure Shape (P:Program) (ops:Array Oper) (A:Array Nat):Prop where
 dep:∀i j,waits ops i j=true->j<ops.size
 sU:∀i j,i<ops.size->j<ops.size->sU A i j=true->waits ops i j=true∨∃d,waits ops i d=true/\Ev.sU A d j=true
 uniq:∀i j k,fl ops i=some k->fl ops j=some k->i=j
 look:∀(i:Nat) (o:Oper) (j k:Nat),ops[i]? =some o->fl ops j=some k->k∈slotsOf ops o->Ev.sU A i j=true∨(gh P ops i=false/\(j=i∨Ev.sU A j i=true))
 dst:∀(i:Nat) (o:Oper),ops[i]? =some o->gh P ops i=true->∃k,o.dst=some k
theorem mw {i k:Nat} (h:fl ops i=some k):i<ops.size:=by
 grind [fl]
theorem iP {i:Nat} {o:Oper} (h:ops[i]? =some o):fl ops i=o.dst:=by simp[fl,h]
theorem jJ (m i:Nat):hasB m i=m.testBit i:=by
 rw[Nat.testBit_eq_decide_div_mod_eq];show Nat.beq ((m >>> i) &&& 1) 1=_
 grind [Nat.shiftRight_eq_div_pow,Nat.beq]
theorem TV (w:Nat):Nat.beq (Nat.land w 1) 1=w.testBit 0:=by
 have:=jJ w 0;exact this
theorem wB (i j:Nat):(bit i).testBit j=decide (i=j):=by
 show(1 <<< i).testBit j=_;rw[Nat.one_shiftLeft,Nat.testBit_two_pow]
theorem ns (m k j:Nat):(Nat.lor m k).testBit j=(m.testBit j || k.testBit j):=Nat.testBit_or m k j
theorem kC {j:Nat}:∀{l:List Nat},(nM l).testBit j=true↔j∈l
 | []=>by simp[nM]
 | i::l=>by
  show(Nat.lor (bit i)<|nM l).testBit j=true↔_;rw[ns,wB,Bool.or_eq_true,kC,mQ_,decide_eq_true_eq]
  grind
theorem Cu {m k:Nat} (h:DN m k=true) (j:Nat) (hj:m.testBit j=true):k.testBit j=true:=by
 have e:m &&& k=m:=nB h
 grind
theorem Ip {m k:Nat} (h:DN m k=false):∃j,m.testBit j=true/\k.testBit j=false:=by
 apply zo_;intro hn
 have e:m &&& k=m:=Nat.eq_of_testBit_eq fun j=>by
  simp_all
 have:DN m k=true:=by
  show Nat.beq (m &&& k) m=true
  simp_all
 simp_all
theorem sM {j:Nat}:∀{L:List RA} {w:Nat},(zM L w).testBit j=true->∃d x,L[d]? =some x/\w.testBit d=true/\x.a.testBit j=true
 | [],w,h=>by simp[zM] at h
 | x::L,w,h=>by
  have h':(Nat.lor (@Bool.rec (fun _=>Nat) 0 x.a<|Nat.beq (Nat.land w 1) 1)<|zM L<|w >>> 1).testBit j=true:=h;rw[ns,Bool.or_eq_true,TV] at h';rcases h' with h' | h'
  ·cases hw:w.testBit 0 with
   | true=>rw[hw] at h';exact⟨0,x,Z,hw,h'⟩
   | false=>
    rw[hw] at h';have h'':(0:Nat).testBit j=true:=h';simp at h''
  obtain⟨d,y,h1,u,h3⟩:=sM h';rw[Nat.testBit_shiftRight] at u;exact⟨d+1,y,by simpa using h1,by rw[Nat.add_comm];exact u,h3⟩
theorem tH:∀(rows:List Row) (L:List RA),(OX rows L).map (·.r)=L.map (·.r)++rows
 | [],L=>by show L.map (·.r)=_;simp
 | r::rows,L=>by
  show(OX rows<|gV L [⟨r,Nat.lor r.w<|zM L r.w⟩]).map (·.r)=_
  rw[tH rows,dU];simp
theorem Dx {i:Nat} {o:Oper} (h:ops[i]? =some o):∃x,(jr P ops)[i]? =some x/\x.r=Aa P ops o:=by
 have e:=tH (AT (Aa P ops) ops.toList) [];rw[lP] at e
 have e':((jr P ops).map (·.r))[i]? =some (Aa P ops o):=by
  unfold jr;rw[lP,e];simp[h]
 simp_all
theorem OY {i:Nat} {x:RA} (h:(jr P ops)[i]? =some x):∃o,ops[i]? =some o/\x.r=Aa P ops o:=by
 have e:=tH (AT (Aa P ops) ops.toList) [];rw[lP] at e
 have e':((jr P ops).map (·.r))[i]? =ops[i]?.map (Aa P ops):=by
  unfold jr;rw[lP,e];simp
 grind
theorem FT {i:Nat} {o:Oper} (h:ops[i]? =some o):(Aa P ops o).w.testBit j=true↔waits ops i j=true:=by
 rw[se];show(nM _).testBit j=true↔_;rw[kC,List.mem_filterMap]
 simp_all
theorem Bj {α:Type} {f:Nat->α->Bool}:∀{l:List α} {i:Nat},allI f l i=true->∀(j:Nat) (x:α),l[j]? =some x->f (i+j) x=true
 | [],i,_,j,x,hx=>by simp at hx
 | y::l,i,h,j,x,hx=>by
  have h': @Bool.rec (fun _=>Bool) false (allI f l (i+1)) (f i y)=true:=h;cases hf:f i y with
  | false=>rw[hf] at h';cases h'
  | true=>
   rw[hf] at h';cases j with
   | zero=>simp at hx;subst hx;exact hf
   | succ j=>
    have:=Bj h' j x (by simpa using hx);rw[show i+(j+1)=i+1+j by omega];exact this
theorem rz {f:Nat->α->Bool} {l:List α} (h:allI f l 0=true) (j:Nat) (x:α) (hx:l[j]? =some x):f j x=true:=by
 have:=Bj h j x hx
 simp_all
theorem me {a b:Bool} (h:(bif a then b else false)=true):a=true/\b=true:=by cases a<;>simp_all
def CP (P:Program) (ops:Array Oper):Array Nat:=((jr P ops).map (·.a)).toArray
theorem tQ {i:Nat} {x:RA} (h:(jr P ops)[i]? =some x):sU (CP P ops) i j=x.a.testBit j:=by
 unfold sU CP
 simp_all
theorem E7 {i:Nat} {o:Oper} (h:ops[i]? =some o):jK P ops i=(Aa P ops o).h:=by unfold jK;rw[h];rfl
theorem zD {i:Nat} {o:Oper} (h:ops[i]? =some o):gh P ops i=(Aa P ops o).k:=by unfold gh;rw[h];rfl
theorem HQ {i:Nat} {x y:RA} (h:OO i x j y=true) (u:y.r.dm=nM y.r.d.toList):FB i x j y=true:=by
 unfold OO at h;cases hb:Nat.beq (Nat.land (Nat.lor x.r.dm x.r.s) y.r.dm) 0 with
 | false=>rw[hb] at h;exact h
 | true=>
  have e:(x.r.dm ||| x.r.s) &&& y.r.dm=0:=nB hb;unfold FB;cases hy:y.r.d with
  | none=>rfl
  | some k=>
   have hk:y.r.dm.testBit k=true:=by rw[u,hy];exact kC.2 (by simp)
   have h0:((x.r.dm ||| x.r.s) &&& y.r.dm).testBit k=false:=by simp_all
   rw[Nat.testBit_and,hk,Bool.and_true,Nat.testBit_or,Bool.or_eq_false_iff] at h0
   grind [jJ]
theorem Pt (h:Ps (jr P ops) ops.size=true):Shape P ops (CP P ops):=by
 have key:∀i o,ops[i]? =some o->∃x,(jr P ops)[i]? =some x/\x.r=Aa P ops o/\x.r.w<2 ^ ops.size/\(x.r.k=true->x.r.d.isSome=true)/\DN x.a (Nat.lor x.r.w<|zM (jr P ops) x.r.w)=true/\
   ∀j y,(jr P ops)[j]? =some y->FB i x j y=true:=by
  intro i o u;obtain⟨x,hx,A⟩:=Dx (P:=P) u;have h1:=rz h i x hx;obtain⟨R,h1⟩:=me h1;obtain⟨k2,h1⟩:=me h1;obtain⟨T,h1⟩:=me h1;refine⟨x,hx,A,?_,fun hk=>?_,T,fun j y hy=>HQ (rz h1 j y hy) (by obtain⟨o',_,E⟩:=OY hy;rw[E];rfl)⟩
  ·rw[tV] at R;have:bit ops.size=2 ^ ops.size:=Nat.one_shiftLeft _;omega
  simp_all
 have pair:∀i o j o' k,ops[i]? =some o->ops[j]? =some o'->o'.dst=some k->(o.dst=some k->j=i)/\(k∈slotsOf ops o->sU (CP P ops) i j=true∨(gh P ops i=false/\(j=i∨sU (CP P ops) j i=true))):=by
  intro i o j o' k u G hk;obtain⟨x,hx,A,_,_,_,hp⟩:=key i o u;obtain⟨y,hy,E⟩:=Dx (P:=P) G;have h1:=hp j y hy;unfold FB at h1;have I:y.r.d=some k:=by rw[E];exact hk
  rw[I] at h1;have K:(bif (bif hasB x.r.dm k then Nat.beq j i else true) then(bif hasB x.r.s k then(bif hasB x.a j then true else(bif x.r.k then false else(bif Nat.beq j i then true else hasB y.a i))) else true) else false)=true:=h1;obtain⟨g1,C⟩:=me K;refine⟨fun L=>?_,fun M=>?_⟩
  ·have:hasB x.r.dm k=true:=by
    rw[jJ,A];show(nM o.dst.toList).testBit k=true;rw[kC,L];simp
   simp_all
  have:hasB x.r.s k=true:=by
   rw[jJ,A];exact kC.2 M
  rw[this] at C;simp only[cond_true] at C;rw[tQ hx,tQ hy,zD (P:=P) u,<-A];cases F:hasB x.a j with
  | true=>rw[jJ] at F;exact .inl F
  | false=>
   rw[F] at C;simp only[cond_false] at C;cases N:x.r.k with
   | true=>simp_all
   | false=>
    rw[N] at C;simp only[cond_false] at C;cases hb:Nat.beq j i with
    | true=>simp_all
    | false=>rw[hb] at C;rw[jJ] at C;simp_all
 refine⟨fun i j hw=>?_,fun i j hi hj F=>?_,fun i j k hi hj=>?_,fun i o j k u hj hk=>?_,fun i o u hl=>?_⟩
 ·obtain⟨o,u,_⟩:=se.1 hw;obtain⟨x,hx,A,aa,_⟩:=key i o u;have:x.r.w.testBit j=true:=by rw[A];exact(FT u).2 hw
  apply zo_
  grind [Nat.testBit_lt_two_pow,zh_,Nat.pow_le_pow_right]
 ·have u:ops[i]? =some ops[i]:=aG_ hi;obtain⟨x,hx,A,_,_,M,_⟩:=key i _ u;rw[tQ hx] at F;have h1:=Cu M j F;rw[ns,Bool.or_eq_true] at h1;rcases h1 with h1 | h1
  ·rw[A] at h1;exact .inl ((FT u).1 h1)
  obtain⟨d,y,hy,Q,h3⟩:=sM h1;rw[A] at Q;exact .inr ⟨d,(FT u).1 Q,by rw[tQ hy];exact h3⟩
 ·have hi':=mw hi;have hj':=mw hj;have u:ops[i]? =some ops[i]:=aG_ hi'
  grind [iP]
 ·grind [mw,iP]
 obtain⟨x,hx,A,_,I,_⟩:=key i o u;rw[zD (P:=P) u,<-A] at hl;have:=I hl;rw[A] at this;exact ze_.1 this
def Ord (ops:Array Oper):List Nat->Prop
 | []=>True
 | i::r=>(∀j,waits ops i j=true->j∈r)/\Ord ops r
structure MP (P:Program) (ops:Array Oper) (A:Array Nat) (i:Nat) (rc:List Nat) (done:List Nat):Prop where
 lt:i<ops.size
 new:i∉done
 dep:∀j,waits ops i j=true->j∈done
 again:jK P ops i=true->∀j∈done,gh P ops j=true->sU A i j=true∨j∈rc
 alone:jK P ops i=true->∀j,j<ops.size->j∉done->j≠i->∃e,waits ops j e=true/\e∉done
def IJ (P:Program) (ops:Array Oper) (A:Array Nat):List (Nat×List Nat)->List Nat->Prop
 | [],done=>∀i,i<ops.size->i∈done
 | (i,rc)::l,done=>MP P ops A i rc done/\IJ P ops A l (i::done)
theorem yw {P:Program} {ops:Array Oper}:∀(p:List (Nat×List Nat)) (D_:Nat) (done:List Nat),(∀j,D_.testBit j=true↔j∈done)->GP (jr P ops) ops.size p D_=true->IJ P ops (CP P ops) p done
 | [],D_,done,F,h=>fun i hi=>by
  have e:D_=bit ops.size-1:=nB h;rw[<-F,e,show bit ops.size=2 ^ ops.size from Nat.one_shiftLeft _,Nat.testBit_two_pow_sub_one]
  simp_all
 | (i,rc)::l,D_,done,F,h=>by
  have h':Option.rec (motive:=fun _=>Bool) false (fun x=>bif NW (jr P ops) i rc D_ x then GP (jr P ops) ops.size l (Nat.lor D_<|bit i) else false) (nth (jr P ops) i)=true:=h;rw[fL] at h';cases hx:(jr P ops)[i]? with
  | none=>simp_all
  | some x=>
  rw[hx] at h';obtain⟨h1,L⟩:=me h';obtain⟨o,G,K⟩:=OY hx;have hlt:=(aS_.1 G).1;unfold NW at h1;cases hi:hasB D_ i with
  | true=>simp_all
  | false=>
  rw[hi] at h1;obtain⟨hw,h3⟩:=me h1;refine⟨⟨hlt,fun hm=>?_,fun j hj=>?_,fun hh j hj hl=>?_,fun hh j hj hn hne=>?_⟩,yw l _ (i::done) (fun j=>?_) L⟩
  ·rw[jJ] at hi
   grind
  ·grind [Cu,FT]
  ·rw[E7 (P:=P) G,<-K] at hh;rw[hh] at h3
   have C:∃o',ops[j]? =some o':=by
    cases u:ops[j]? with
    | some o'=>exact⟨o',Z⟩
    | none=>unfold gh at hl;simp_all
   obtain⟨o',u⟩:=C;obtain⟨y,hy,E⟩:=Dx (P:=P) u;have h4:=rz h3 j y hy;have A:hasB D_ j=true:=by rw[jJ];exact(F j).2 hj
   rw[A] at h4;simp only[cond_true] at h4;rw[tQ hx];cases I:hasB x.a j with
   | true=>rw[jJ] at I;exact .inl I
   | false=>
    rw[I] at h4;rw[zD (P:=P) u,<-E] at hl;rw[hl] at h4;simp only[cond_true,cond_false] at h4;rw[jJ] at h4;exact .inr<|kC.1 h4
  ·rw[E7 (P:=P) G,<-K] at hh;rw[hh] at h3;have u:ops[j]? =some ops[j]:=aG_ hj;obtain⟨y,hy,E⟩:=Dx (P:=P) u;have h4:=rz h3 j y hy
   have A:hasB D_ j=false:=by
    grind [jJ]
   rw[A] at h4;simp only[cond_false] at h4;cases hb:Nat.beq j i with
   | true=>simp_all
   | false=>
    rw[hb] at h4;simp only[cond_false] at h4
    grind [Ip,FT]
  rw[ns,wB,Bool.or_eq_true,F,mQ_,decide_eq_true_eq]
  grind
theorem Q9 (h:vM P ops=true):Shape P ops (CP P ops)/\IJ P ops (CP P ops) (lS P ops) []:=by
 obtain⟨h1,h2⟩:=me h
 grind [Pt,yw]
variable {listed:Array Bool} {ti:PT Y}
def Li (listed:Array Bool) (i:Nat):Prop:=listed.getD i false=true
theorem Oz {i:Nat} (hi:i<listed.size):listed.getD i true=false↔¬Li listed i:=by
 simp[Li,Array.getD_eq_getD_getElem?,hi]
theorem Gy {i:Nat} (hi:i<listed.size):Li (listed.setIfInBounds i true) j↔j=i∨Li listed j:=by
 unfold Li;simp only[Array.getD_eq_getD_getElem?,Array.getElem?_setIfInBounds]
 grind
def de:Y->Option Pos
 | .ptr b _=>some b
 | .slice b _ _ _=>some b
 | .map b=>some b
 | _=>none
theorem CV (mk:Mk) (b:Pos):de (mk.of b)=some b:=by cases mk<;>rfl
def nb (P:Program) (G:Cx) (t:PT Y) (V:D) (U:Ren) (lo:Nat) (ti:PT Y) (o:Oper):Prop:=
 match kindOf P o.op with
 | .pure=>∃v,dH P (bA G ti) o.op=some v/\∀k,o.dst=some k->t.get (posOf k)=some v
 | .read=>∃v,gG P (bA G ti) V o.op=some v/\∀k,o.dst=some k->t.get (posOf k)=some v
 | .alloc=>∃ob mk b,fV P (bA G ti) o.op=some (ob,mk)/\V.m.get b=some ob/\U b=none/\lo<=b.num/\b.num<V.next.num/\∀k,o.dst=some k->t.get (posOf k)=some (mk.of b)
 | .kg=>False
def si (P:Program) (G:Cx) (ops:Array Oper) (A:Array Nat) (t₀ t:PT Y) (V:D) (U:Ren) (lo:Nat) (i:Nat):Prop:=
 ∃o ti,ops[i]? =some o/\
  (∀k∈slotsOf ops o,∀j,sU A i j=true->fl ops j=some k->ti.get (posOf k)=t.get (posOf k))/\
  (∀k∈slotsOf ops o,(∀j,fl ops j=some k->sU A i j=false)->ti.get (posOf k)=t₀.get (posOf k))/\
  ∃bw,bH ops ti o=some bw/\(bw=false->∀k,o.dst=some k->t.get (posOf k)=some unit)/\(bw=true->nb P G t V U lo ti o)
section
variable {P:Program} {G:Cx} {ops:Array Oper} {A:Array Nat} {t₀ t t₁:PT Y} {V σ₁:D} {U ρ₁:Ren} {lo i:Nat}
theorem zf {o:Oper} {want:Bool} {k:Nat} (u:o.guard=some (j,want)) (hk:(ops[j]?).bind (·.dst)=some k):k∈slotsOf ops o:=by
 unfold slotsOf;rw[u];simp[hk]
theorem Dt {o:Oper} {k:Nat} (h:Operand.tmp k∈o.op.operands):k∈slotsOf ops o:=by
 unfold slotsOf;refine List.mem_append_left _<|List.mem_filterMap.2 ⟨.tmp k,by simpa using h,Z⟩
theorem kT {o:Oper} {tj:PT Y} (h:∀k∈slotsOf ops o,ti.get (posOf k)=tj.get (posOf k)):bH ops ti o=bH ops tj o:=by
 grind [bH,zf]
theorem si.agree (hp:si P G ops A t₀ t V U lo i) (h:∀k,(fl ops i=some k∨∃j,sU A i j=true/\fl ops j=some k)->t₁.get (posOf k)=t.get (posOf k)):si P G ops A t₀ t₁ V U lo i:=by
 obtain⟨o,ti,u,h1,E,bw,h3,F,h5⟩:=hp;have I:∀k,o.dst=some k->t₁.get (posOf k)=t.get (posOf k):=fun k hk=>h k (.inl (by rw[iP u];exact hk))
 refine⟨o,ti,u,fun k hk j C hj=>(h1 k hk j C hj).trans (h k (.inr ⟨j,C,hj⟩)).symm,E,bw,h3,fun hb k hk=>(I k hk).trans (F hb k hk),fun hb=>?_⟩
 grind [nb]
theorem si.grow (hp:si P G ops A t₀ t V U lo i) (h:∀b o,V.m.get b=some o->σ₁.m.get b=some o) (hn:V.next.num<=σ₁.next.num):si P G ops A t₀ t σ₁ U lo i:=by
 obtain⟨o,ti,u,h1,C,bw,h3,E,h5⟩:=hp;refine⟨o,ti,u,h1,C,bw,h3,E,fun hb=>?_⟩
 grind [nb,LP]
theorem si.Yr (hp:si P G ops A t₀ t V U lo i) (C:Shape P ops A) (h:∀b,(∃o k v,ops[i]? =some o/\kindOf P o.op= .alloc/\fl ops i=some k/\t.get (posOf k)=some v/\de v=some b)->U b=none->ρ₁ b=none):si P G ops A t₀ t V ρ₁ lo i:=by
 obtain⟨o,ti,u,h1,E,bw,h3,F,h5⟩:=hp;refine⟨o,ti,u,h1,E,bw,h3,F,fun hb=>?_⟩;have:=h5 hb;unfold nb at this⊢;split at this
 ·exact this
 ·exact this
 ·rename_i hk;obtain⟨ob,mk,b,g1,g2,g3,g4,g5,g6⟩:=this;obtain⟨k,aa⟩:=C.dst i o u (by simp[gh,vO,u,hk])
  grind [iP,CV]
 exact this
theorem si.again (hp:si P G ops A t₀ t V U lo i) (T:Shape P ops A) (h:∀k,(fl ops i=some k∨∃j,sU A i j=true/\fl ops j=some k)->t₁.get (posOf k)=t.get (posOf k))
  (h0:∀k,(∀j,fl ops j≠some k)->t₁.get (posOf k)=t₀.get (posOf k)) (E:gh P ops i=true->kL P G ops t₁ σ₁ i=true)
  (hr:∀b:Pos,b.num<V.next.num->ρ₁ b=U b) (hn:V.next.num<=σ₁.next.num):si P G ops A t₀ t₁ σ₁ ρ₁ lo i:=by
 have hp₁:=hp.agree h;obtain⟨o,ti,F,h1,K,bw,h3,W,h5⟩:=hp₁;cases hb:bw with
 | false=>exact⟨o,ti,F,h1,K,bw,h3,W,fun L=>absurd L (by rw[hb];simp)⟩
 | true=>
  have hv:=h5 hb;subst hb;cases hk:kindOf P o.op with
  | pure=>
   refine⟨o,ti,F,h1,K,true,h3,W,fun _=>?_⟩
   grind [nb]
  | kg=>unfold nb at hv;simp_all
  | read=>
   have hl:gh P ops i=true:=by simp[gh,vO,F,hk]
   have C:∀k∈slotsOf ops o,t₁.get (posOf k)=ti.get (posOf k):=fun k u=>by
    by_cases hw:∃j,fl ops j=some k
    ·obtain⟨j,hj⟩:=hw;rcases T.look i o j k F hj u with M | ⟨N,_⟩
     ·grind
     simp_all
    simp_all
   have O:=E hl;unfold kL at O;rw[F] at O;dsimp only at O;rw[kT C,h3] at O;dsimp only at O;refine⟨o,t₁,F,fun _ _ _ _ _=>Z,fun k u hj=>(C k u).trans (K k u hj),true,by rw[kT C];exact h3,fun h'=>(by cases h'),fun _=>?_⟩
   grind [nb,xG]
  | alloc=>
   have hl:gh P ops i=true:=by simp[gh,vO,F,hk]
   have C:∀k∈slotsOf ops o,t₁.get (posOf k)=ti.get (posOf k):=fun k u=>by
    by_cases hw:∃j,fl ops j=some k
    ·obtain⟨j,hj⟩:=hw;rcases T.look i o j k F hj u with M | ⟨N,_⟩
     ·grind
     simp_all
    simp_all
   have O:=E hl;unfold kL at O;rw[F] at O;dsimp only at O;rw[kT C,h3] at O;dsimp only at O;refine⟨o,t₁,F,fun _ _ _ _ _=>Z,fun k u hj=>(C k u).trans (K k u hj),true,by rw[kT C];exact h3,fun h'=>(by cases h'),fun _=>?_⟩;unfold nb at hv⊢;rw[hk] at hv⊢;dsimp only at hv⊢;obtain⟨ob,mk,b,g1,g2,g3,g4,g5,X⟩:=hv;split at O
   ·rename_i k Q;have g6':=X k Q;rw[g6'] at O;dsimp only at O;rw[hk] at O;dsimp only at O;have ab:ρ₁ b=none:=by simp_all
    split at O
    ·rename_i cs e b' M I;split at O
     ·rename_i cs' e' R;rw[bA_] at O;have e1:=nB O.1;have e2:=rD O.2;subst e1;subst e2;have aa:b'=b:=by cases mk<;>simp[Mk.of] at I<;>exact I.symm
      grind [Mk.of]
     cases O
    ·rename_i cs e n c b' n' c' M I;split at O
     ·rename_i cs' e' R;simp only[bA_] at O;have e1:=nB O.1.1.1;have e2:=rD O.1.1.2;have e3:=nB O.1.2;have e4:=nB O.2;subst e1;subst e2;subst e3;subst e4;have ac:b'=b/\mk= .slice n c:=by cases mk<;>simp[Mk.of] at I<;>(simp_all)
      grind
     cases O
    cases O
   cases O
end
theorem mQ {t t₁:PT Y} {n:Nat} {dst:Option Nat} {v:Y} (h:dA t n dst v=some t₁):
  (∀k,dst≠some k->t₁.get (posOf k)=t.get (posOf k))/\(∀k,dst=some k->k<n/\t₁.get (posOf k)=some v):=by
 cases dst with
 | none=>cases h;simp_all
 | some j=>
  obtain⟨hj,rfl⟩:=rW h;refine⟨fun k hk=>PT.dD _ _ _ _ (fun e=>hk (by rw[rU e])),fun k hk=>?_⟩;cases hk;exact⟨hj,PT.dR _ _ _⟩
theorem OV {a:Act} {dst:Option Tmp} {x:Value}:(∀k,dst≠some k->(a.put dst x).tmps.getD k undef=a.tmps.getD k undef)/\(∀k,dst=some k->k<a.tmps.size->(a.put dst x).tmps.getD k undef=x)/\(a.put dst x).tmps.size=a.tmps.size:=by
 cases dst with
 | none=>exact⟨fun _ _=>Z,(fun k hk=>by cases hk),Z⟩
 | some j=>
  refine⟨fun k hk=>?_,fun k hk u=>?_,by simp[Act.put]⟩
  ·have:j≠k:=fun e=>hk (by rw[e])
   simp[Act.put,Array.getD_eq_getD_getElem?,Array.getElem?_setIfInBounds,this]
  cases hk;simp[Act.put,Array.getD_eq_getD_getElem?,Array.getElem?_setIfInBounds,u]
variable {rc:List Nat} {t₁:PT Y}
theorem dn {x y:α} {l:List α} (h:x∈y::l):x=y∨x∈l:=mQ_.1 h
structure J (P:Program) (G:Cx) (ih:jX) (ops:Array Oper) (A:Array Nat) (n:Nat) (d:List DE) (fin:CR) (ρ₀:Ren) (σ₀:D) (w₀:World) (t₀:PT Y)
  (l:List (Nat×List Nat)) (done:List Nat) (t:PT Y) (V:D) (listed:Array Bool) (U:Ren) (w:World) (a:Act):Prop where
 run:ki P G ih ops n d l t V=fin
 ok:IJ P ops A l done
 inv:Inv U V w
 S9:eH ρ₀ σ₀ w₀ U V w
 dr:DR U d a.defers
 gr:GR U G
 Te:a.tmps.size=n
 Qp:listed.size=ops.size
 Tz:∀i∈done,i<ops.size
 ord:Ord ops done
 sub:∀i,Li listed i->i∈done
 kg:∀i∈done,jK P ops i=true->Li listed i
 closed:∀i j,j<ops.size->Li listed i->sU A i j=true->Li listed j
 lK:∀i j,j<ops.size->i∈done->sU A i j=true->j∈done
 UU:∀i∈done,∀k,fl ops i=some k->k<n
 F0:∀i k v,Li listed i->fl ops i=some k->t.get (posOf k)=some v->VR U v (a.tmps.getD k undef)
 FZ:∀k v,(∀i,Li listed i->fl ops i≠some k)->t₀.get (posOf k)=some v->k<n/\VR U v (a.tmps.getD k undef)
 same:∀k,(∀i∈done,fl ops i≠some k)->t.get (posOf k)=t₀.get (posOf k)
 FD:∀i∈done,¬Li listed i->si P G ops A t₀ t V U σ₀.next.num i
 apart:∀i j o o' k k' v v' b,i∈done->j∈done->¬Li listed i->¬Li listed j->ops[i]? =some o->ops[j]? =some o'->kindOf P o.op= .alloc->kindOf P o'.op= .alloc->
  fl ops i=some k->fl ops j=some k'->t.get (posOf k)=some v->t.get (posOf k')=some v'->de v=some b->de v'=some b->i=j
section
variable {P:Program} {G:Cx} {ih:jX} {ops:Array Oper} {A:Array Nat} {n:Nat} {d:List DE} {fin:CR} {ρ₀:Ren} {σ₀:D} {w₀:World} {t₀:PT Y}
variable {l:List (Nat×List Nat)} {done:List Nat} {t:PT Y} {V:D} {listed:Array Bool} {U:Ren} {w:World} {a:Act}
theorem yj (u:Shape P ops A) {i:Nat} (hi:i<ops.size) (hw:∀j,waits ops i j=true->j∈done) (hd:∀i j,j<ops.size->i∈done->sU A i j=true->j∈done):∀j,j<ops.size->sU A i j=true->j∈done:=fun j hj C=>by
 rcases u.sU i j hi hj C with h | ⟨q,h1,h2⟩
 ·exact hw j h
 grind
theorem yl (u:Shape P ops A) {i:Nat} (hi:i<ops.size) (hw:∀j,waits ops i j=true->Li listed j) (hd:∀i j,j<ops.size->Li listed i->sU A i j=true->Li listed j):∀j,j<ops.size->sU A i j=true->Li listed j:=fun j hj C=>by
 rcases u.sU i j hi hj C with h | ⟨q,h1,h2⟩
 ·exact hw j h
 grind
theorem J.zg (F:Shape P ops A) (hj:J P G ih ops A n d fin ρ₀ σ₀ w₀ t₀ l done t V listed U w a) {i:Nat} {o:Oper} (E:ops[i]? =some o) (hn:i∉done):
  ∀k∈slotsOf ops o,(∀j,fl ops j=some k->sU A i j=false)->t.get (posOf k)=t₀.get (posOf k):=fun k hk aa=>by
 refine hj.same k fun j u C=>?_
 rcases F.look i o j k E C hk with h | ⟨_,h | h⟩
 ·simp_all
 ·subst h;exact hn u
 exact hn<|hj.lK j i (aS_.1 E).1 u h
theorem J.look (I:Shape P ops A) (hj:J P G ih ops A n d fin ρ₀ σ₀ w₀ t₀ l done t V listed U w a) {i:Nat} {o:Oper} {ti:PT Y} (E:ops[i]? =some o) (hn:¬Li listed i) (K:∀j,j<ops.size->sU A i j=true->Li listed j)
  (h1:∀k∈slotsOf ops o,∀j,sU A i j=true->fl ops j=some k->ti.get (posOf k)=t.get (posOf k)) (L:∀k∈slotsOf ops o,(∀j,fl ops j=some k->sU A i j=false)->ti.get (posOf k)=t₀.get (posOf k)):
  ∀k∈slotsOf ops o,∀v,ti.get (posOf k)=some v->k<n/\VR U v (a.tmps.getD k undef):=fun k hk v hv=>by
 by_cases hw:∃j,fl ops j=some k/\sU A i j=true
 ·obtain⟨j,u,F⟩:=hw;have hL:=K j (mw u) F;rw[h1 k hk j F u] at hv;exact⟨hj.UU j (hj.sub j hL) k u,hj.F0 j k v hL u hv⟩
 have C:∀j,fl ops j=some k->sU A i j=false:=fun j u=>by
  simp_all
 rw[L k hk C] at hv;refine hj.FZ k v (fun j hL u=>?_) hv;rcases I.look i o j k E u hk with h | ⟨_,h | h⟩
 ·simp_all
 ·subst h;exact hn hL
 exact hn<|hj.closed j i (aS_.1 E).1 hL h
theorem Jn {o:Oper} (u:GR U G) (h:∀k∈slotsOf ops o,∀v,ti.get (posOf k)=some v->k<n/\VR U v (a.tmps.getD k undef)):ER U (bA G ti) a.eval o.op:=fun x hx v hv=>by
 cases x with
 | tmp k=>exact(h k (Dt hx) v hv).2
 | const c=>exact jb (t:=.leaf) (n:=a.tmps.size) u ⟨Z,fun k v hk=>by rw[PT.mF] at hk;cases hk⟩ hv
 | global g=>exact jb (t:=.leaf) (n:=a.tmps.size) u ⟨Z,fun k v hk=>by rw[PT.mF] at hk;cases hk⟩ hv
 | func f=>exact jb (t:=.leaf) (n:=a.tmps.size) u ⟨Z,fun k v hk=>by rw[PT.mF] at hk;cases hk⟩ hv
theorem wW {o:Oper} {b:Bool} (u:a.tmps.size=n) (h:∀k∈slotsOf ops o,∀v,ti.get (posOf k)=some v->k<n/\VR U v (a.tmps.getD k undef)) (hw:bH ops ti o=some b):Region.wanted o (yielded ops a.tmps)=b:=
 CB hw fun j want k C hk v hv=>by
  have:=h k (zf C hk) v hv;rw[u];exact this
theorem J.ahead (hs:Shape P ops A) {i:Nat} (hj:J P G ih ops A n d fin ρ₀ σ₀ w₀ t₀ ((i,rc)::l) done t V listed U w a) (hl:jK P ops i=false) {o:Oper} (ho:ops[i]? =some o) {v:Y} 
  (hp:dA t n o.dst v=some t₁) (I:ki P G ih ops n d l t₁ σ₁=fin) (hinv:Inv U σ₁ w) (O:eH U V w U σ₁ w) (K:∀b o,V.m.get b=some o->σ₁.m.get b=some o)
  (hblk:∀b,de v=some b->kindOf P o.op= .alloc->V.next.num<=b.num) (ab:si P G ops A t₀ t₁ σ₁ U σ₀.next.num i):J P G ih ops A n d fin ρ₀ σ₀ w₀ t₀ l (i::done) t₁ σ₁ listed U w a:=by
 obtain⟨hh,T⟩:=hj.ok;obtain⟨f1,f2⟩:=mQ hp;have L:fl ops i=o.dst:=iP ho;have ap:¬Li listed i:=fun h=>hh.new (hj.sub i h)
 have C:∀j∈done,∀k,fl ops j=some k->t₁.get (posOf k)=t.get (posOf k):=fun j E k hk=>f1 k fun e=>by
  have:=hs.uniq i j k (by rw[L];exact e) hk;subst this;exact hh.new E
 have aa:∀j∈done,¬Li listed j->si P G ops A t₀ t₁ σ₁ U σ₀.next.num j:=fun j E F=>by
  refine((hj.FD j E F).agree fun k hk=>?_).grow K O.next;rcases hk with hk | ⟨q,hq,hk⟩
  ·grind
  exact C q (hj.lK j q (mw hk) E hq) k hk
 have ao:∀j o' k' v' b,j∈done->¬Li listed j->ops[j]? =some o'->kindOf P o'.op= .alloc->fl ops j=some k'->t₁.get (posOf k')=some v'->de v'=some b->b.num<V.next.num:=fun j o' k' v' b E F M hk W hv hb=>by
  obtain⟨o'',ti,e,_,_,bw,_,X,h5⟩:=hj.FD j E F;rw[M] at e;cases e;rw[C j E k' W] at hv;rw[iP M] at W;cases bw with
  | false=>rw[X Z k' W] at hv;cases hv;cases hb
  | true=>
   have:=h5 Z
   grind [nb,CV]
 refine⟨I,T,hinv,hj.S9.trans O,hj.dr,hj.gr,hj.Te,hj.Qp,fun j h=>?_,⟨hh.dep,hj.ord⟩,fun j h=>mC_ _ (hj.sub j h),fun j h hv=>?_,hj.closed,fun j q hq h ha=>?_,fun j h k hk=>?_,fun j k u hL hk hu=>?_,hj.FZ,fun k hk=>?_,fun j h F=>?_,?_⟩
 ·rcases dn h with rfl | h
  ·exact hh.lt
  exact hj.Tz j h
 ·rcases dn h with rfl | h
  ·simp_all
  exact hj.kg j h hv
 ·rcases dn h with rfl | h
  ·exact mC_ _<|yj hs hh.lt hh.dep hj.lK q hq ha
  exact mC_ _<|hj.lK j q hq h ha
 ·rcases dn h with rfl | h
  ·simp_all
  exact hj.UU j h k hk
 ·rw[C j (hj.sub j hL) k hk] at hu;exact hj.F0 j k u hL hk hu
 ·rw[f1 k (fun e=>hk i (mS_ ..) (by rw[L];exact e))];exact hj.same k fun j h=>hk j (mC_ _ h)
 ·grind
 intro j q o' o'' k k' u u' b h1 h2 h3 X h5 h6 h7 h8 h9 N Q R ac am;rcases dn h1 with rfl | m1<;>rcases dn h2 with rfl | m2
 ·rfl
 ·grind
 ·grind
 rw[C j m1 k h9] at Q;rw[C q m2 k' N] at R;exact hj.apart j q o' o'' k k' u u' b m1 m2 h3 X h5 h6 h7 h8 h9 N Q R ac am
theorem Inv.GB (hi:Inv U V w) (ob:cd):CL U (V.alloc ob) w/\eH U V w U (V.alloc ob) w/\∀b o,V.m.get b=some o->(V.alloc ob).m.get b=some o:=by
 have aa:U V.next=none:=(hi.fresh _<|nR_ _).1;have u:∀b,b≠V.next->(V.alloc ob).m.get b=V.m.get b:=fun b hb=>PT.dD _ _ _ _ hb
 have back:∀b o l,(V.alloc ob).m.get b=some o->U b=some l->V.m.get b=some o:=fun b o l h hl=>by
  grind
 refine⟨⟨fun b hb=>?_,hi.de,fun b o l h hl=>hi.obj b o l (back b o l h hl) hl,fun b b' o o' l l' h1 C h3 E=>hi.inj b b' o o' l l' (back b o l h1 h3) (back b' o' l' C E) h3 E⟩,⟨fun _ _=>Z,?_,nR_ _,fun _ _ _=>Z,?_,Z,Z,Z,nR_ _⟩,fun b o h=>?_⟩
 ·have ab:V.next.num+1<=b.num:=by simpa [D.alloc,Pos.iR] using hb
  have hne:b≠V.next:=fun e=>by subst e;omega
  rw[u b hne];exact hi.fresh b oM
 ·simp[D.alloc,Pos.iR]
 ·rintro r ⟨b,o,l,h1,C,h3,rfl⟩ _;exact⟨b,o,l,back b o l h1 h3,C,h3,Z⟩
 by_cases e:b=V.next
 ·subst e;rw[(hi.fresh _<|nR_ _).2] at h;cases h
 simp_all
theorem Inv.ahead (hi:Inv U V w) (ob:cd):Inv U (V.alloc ob) w/\eH U V w U (V.alloc ob) w/\∀b o,V.m.get b=some o->(V.alloc ob).m.get b=some o:=
 let ⟨h1,u,h3⟩:=hi.GB ob;⟨⟨h1,hi.oW.of u⟩,u,h3⟩
theorem D.Lc (V:D) (ob:cd):(V.alloc ob).m.get V.next=some ob:=PT.dR _ _ _
theorem J.Vm (I:Shape P ops A) {i:Nat} (hj:J P G ih ops A n d fin ρ₀ σ₀ w₀ t₀ ((i,rc)::l) done t V listed U w a) (hl:jK P ops i=false) (aa:∀k,fin≠ .err k):
  ∃t₁ σ₁,J P G ih ops A n d fin ρ₀ σ₀ w₀ t₀ l (i::done) t₁ σ₁ listed U w a:=by
 obtain⟨hh,ab⟩:=hj.ok;obtain⟨o,E⟩:∃o,ops[i]? =some o:=⟨ops[i]' hh.lt,aG_ hh.lt⟩
 have u:(match ops[i]? with
   | some o=>iS P G ih false ops n o t V (fun t' V'=>bif dw P G ops t' V' rc then ki P G ih ops n d l t' V' else .err 86)
   | none=>.err 87)=fin:=hj.run
 rw[E] at u;dsimp only at u;have hhead:=hj.zg I E hh.new
 have C:∀t₁ σ₁,(bif dw P G ops t₁ σ₁ rc then ki P G ih ops n d l t₁ σ₁ else .err 86)=fin->ki P G ih ops n d l t₁ σ₁=fin:=fun t₁ σ₁ h=>by
  grind
 have F:∀{v:Y} {t₁:PT Y},dA t n o.dst v=some t₁->∀k∈slotsOf ops o,∀j,sU A i j=true->fl ops j=some k->t.get (posOf k)=t₁.get (posOf k):=fun hp k hk j N L=>by
  refine((mQ hp).1 k fun e=>?_).symm;have:=I.uniq i j k (by rw[iP E];exact e) L;subst this;exact hh.new<|yj I hh.lt hh.dep hj.lK i hh.lt N
 unfold iS at u;cases hw:bH ops t o with
 | none=>grind
 | some bw=>
  rw[hw] at u;cases bw with
  | false=>
   dsimp only at u;cases hp:dA t n o.dst unit with
   | none=>grind
   | some t₁=>
    rw[hp] at u;refine⟨t₁,V,hj.ahead I hl E hp (C _ _ u) hj.inv (eH.refl _ _ _) (fun _ _ h=>h) (fun b hb=>by cases hb) ?_⟩;exact⟨o,t,E,F hp,hhead,false,hw,fun _ k hk=>((mQ hp).2 k hk).2,fun h=>by cases h⟩
  | true=>
   dsimp only at u
   have main:∀(v:Y) (σ₁:D),lr P G ih (dM P G (bA G t) V o.op)= .ret v σ₁->Inv U σ₁ w->eH U V w U σ₁ w->(∀b o,V.m.get b=some o->σ₁.m.get b=some o)->
     (∀b,de v=some b->kindOf P o.op= .alloc->V.next.num<=b.num)->(∀t₁,(∀k,o.dst=some k->t₁.get (posOf k)=some v)->nb P G t₁ σ₁ U σ₀.next.num t o)->
     ∃t₁ σ₁,J P G ih ops A n d fin ρ₀ σ₀ w₀ t₀ l (i::done) t₁ σ₁ listed U w a:=by
    intro v σ₁ he hinv O K hblk M;rw[he] at u;dsimp only at u;cases hp:dA t n o.dst v with
    | none=>grind
    | some t₁=>
     rw[hp] at u;refine⟨t₁,σ₁,hj.ahead I hl E hp (C _ _ u) hinv O K hblk ?_⟩;exact⟨o,t,E,F hp,hhead,true,hw,fun h=>(by cases h),fun _=>M t₁ fun k hk=>((mQ hp).2 k hk).2⟩
   cases hk:kindOf P o.op with
   | kg=>simp[jK,Ho,E,hk] at hl
   | pure=>
    cases hv:dH P (bA G t) o.op with
    | none=>
     have:lr P G ih (dM P G (bA G t) V o.op)= .err (Nat.add 1000<|BZ o.op):=by unfold dM;rw[hk];dsimp only;rw[hv];rfl
     grind
    | some v=>
     have:lr P G ih (dM P G (bA G t) V o.op)= .ret v V:=by unfold dM;rw[hk];dsimp only;rw[hv];rfl
     refine main v V this hj.inv (eH.refl _ _ _) (fun _ _ h=>h) (fun b _ h=>by rw[hk] at h;cases h) fun t₁ ht₁=>?_
     unfold nb;simp_all
   | read=>
    cases hv:gG P (bA G t) V o.op with
    | none=>
     have:lr P G ih (dM P G (bA G t) V o.op)= .err (Nat.add 2000<|BZ o.op):=by unfold dM;rw[hk];dsimp only;rw[hv];rfl
     grind
    | some v=>
     have:lr P G ih (dM P G (bA G t) V o.op)= .ret v V:=by unfold dM;rw[hk];dsimp only;rw[hv];rfl
     refine main v V this hj.inv (eH.refl _ _ _) (fun _ _ h=>h) (fun b _ h=>by rw[hk] at h;cases h) fun t₁ ht₁=>?_
     unfold nb;simp_all
   | alloc=>
    cases hv:fV P (bA G t) o.op with
    | none=>
     have:lr P G ih (dM P G (bA G t) V o.op)= .err (Nat.add 3000<|BZ o.op):=by unfold dM;rw[hk];dsimp only;rw[hv];rfl
     grind
    | some p=>
     obtain⟨ob,mk⟩:=p;have:lr P G ih (dM P G (bA G t) V o.op)= .ret (mk.of V.next) (V.alloc ob):=by unfold dM;rw[hk];dsimp only;rw[hv];rfl
     obtain⟨g1,Q,R⟩:=hj.inv.ahead ob;refine main _ _ this g1 Q R (fun b hb _=>by rw[CV] at hb;simp_all) fun t₁ ht₁=>?_
     unfold nb;rw[hk];exact⟨ob,mk,V.next,hv,D.Lc V ob,(hj.inv.fresh _<|nR_ _).1,hj.S9.next,by simp[D.alloc,Pos.iR],ht₁⟩
theorem J.advance (C:Shape P ops A) (u:∀k,fin≠ .err k):∀(l:List (Nat×List Nat)) (done:List Nat) (t:PT Y) (V:D),J P G ih ops A n d fin ρ₀ σ₀ w₀ t₀ l done t V listed U w a->
  ∃l' done' t' V',J P G ih ops A n d fin ρ₀ σ₀ w₀ t₀ l' done' t' V' listed U w a/\(l'= []∨∃i rc r,l'=(i,rc)::r/\jK P ops i=true)
 | [],done,t,V,hj=>⟨[],done,t,V,hj,.inl Z⟩
 | (i,rc)::l,done,t,V,hj=>by
  cases hl:jK P ops i with
  | true=>exact⟨_,done,t,V,hj,.inr ⟨i,rc,l,Z,hl⟩⟩
  | false=>
   obtain⟨t₁,σ₁,hj₁⟩:=hj.Vm C hl u;exact J.advance C u l _ t₁ σ₁ hj₁
end
variable {ob:cd}
section
variable {P:Program} {G:Cx} {ih:jX} {ops:Array Oper} {A:Array Nat} {n:Nat} {d:List DE} {fin:CR} {ρ₀:Ren} {σ₀:D} {w₀:World} {t₀:PT Y}
variable {l:List (Nat×List Nat)} {done:List Nat} {t:PT Y} {V:D} {listed:Array Bool} {U:Ren} {w:World} {a:Act}
theorem J.behind (L:Shape P ops A) (hj:J P G ih ops A n d fin ρ₀ σ₀ w₀ t₀ l done t V listed U w a) {i:Nat} {o:Oper} {x:Value} (M:ops[i]? =some o) (F:i∈done) (hn:¬Li listed i)
  (hr:∀j,j<ops.size->sU A i j=true->Li listed j) (hv:∀k v,o.dst=some k->t.get (posOf k)=some v->VR ρ₁ v x) (hinv:Inv ρ₁ V w₁) (O:eH ρ₀ σ₀ w₀ ρ₁ V w₁) (hle:U.le ρ₁)
  (aa:∀j∈done,¬Li listed j->j≠i->si P G ops A t₀ t V ρ₁ σ₀.next.num j):J P G ih ops A n d fin ρ₀ σ₀ w₀ t₀ l done t V (listed.setIfInBounds i true) ρ₁ w₁ (a.put o.dst x):=by
 have I:i<listed.size:=by rw[hj.Qp];exact hj.Tz i F
 have E:fl ops i=o.dst:=iP M;obtain⟨K,N,Q⟩:=OV (a:=a) (dst:=o.dst) (x:=x);have C:∀{j},Li (listed.setIfInBounds i true) j↔j=i∨Li listed j:=Gy I
 refine⟨hj.run,hj.ok,hinv,O,by rw[put_defers];exact hj.dr.mono hle,hj.gr.mono hle,by rw[Q];exact hj.Te,by simpa using hj.Qp,hj.Tz,hj.ord,fun j h=>?_,fun j h hh=>C.2 (.inr<|hj.kg j h hh),fun j q hq h R=>?_,hj.lK,hj.UU,
  fun j k v h hk hu=>?_,fun k v h hu=>?_,hj.same,fun j h hl=>?_,?_⟩
 ·rcases C.1 h with rfl | h
  ·exact F
  exact hj.sub j h
 ·rcases C.1 h with rfl | h
  ·simp_all
  exact C.2 (.inr<|hj.closed j q hq h R)
 ·by_cases e:j=i
  ·subst e;rw[E] at hk;rw[N k hk (by rw[hj.Te];exact hj.UU j F k (by rw[E];exact hk))];exact hv k v hk hu
  have hL:=(C.1 h).resolve_left e;rw[K k (fun e'=>e (L.uniq j i k hk (by rw[E];exact e')))];exact VR.mono hle _ _<|hj.F0 j k v hL hk hu
 ·rw[K k (fun e'=>h i (C.2 (.inl Z)) (by rw[E];exact e'))];obtain⟨q1,q2⟩:=hj.FZ k v (fun j hL=>h j (C.2 (.inr hL))) hu;exact⟨q1,VR.mono hle _ _ q2⟩
 ·simp_all
 intro j q o' o'' k k' u u' b h1 T h3 W;exact hj.apart j q o' o'' k k' u u' b h1 T (fun hL=>h3 (C.2 (.inr hL))) (fun hL=>W (C.2 (.inr hL)))
theorem uV {t₁:PT Y} {σ₁:D}:∀{rc:List Nat} {j:Nat},dw P G ops t₁ σ₁ rc=true->j∈rc->kL P G ops t₁ σ₁ j=true
 | [],j,_,hj=>by cases hj
 | i::rc,j,h,hj=>by
  have h':(bif kL P G ops t₁ σ₁ i then dw P G ops t₁ σ₁ rc else false)=true:=h;rw[bB] at h';split at h'
  ·rename_i hi;rcases dn hj with rfl | hj
   ·exact hi
   exact uV h' hj
  cases h'
theorem J.PF (X:Shape P ops A) {i:Nat} (hj:J P G ih ops A n d fin ρ₀ σ₀ w₀ t₀ ((i,rc)::l) done t V listed U w a) (hl:jK P ops i=true) {o:Oper} (ho:ops[i]? =some o)
  (hr:∀j,j<ops.size->sU A i j=true->Li listed j) {v:Y} {x:Value} (hp:dA t n o.dst v=some t₁) (K:dw P G ops t₁ σ₁ rc=true) (M:ki P G ih ops n d l t₁ σ₁=fin)
  (hv:VR ρ₁ v x) (hinv:Inv ρ₁ σ₁ w₁) (O:eH U V w ρ₁ σ₁ w₁):J P G ih ops A n d fin ρ₀ σ₀ w₀ t₀ l (i::done) t₁ σ₁ (listed.setIfInBounds i true) ρ₁ w₁ (a.put o.dst x):=by
 obtain⟨hh,aa⟩:=hj.ok;obtain⟨f1,f2⟩:=mQ hp;have hle:=O.le hj.inv;have ab:i<listed.size:=by rw[hj.Qp];exact hh.lt
 have F:fl ops i=o.dst:=iP ho;obtain⟨p1,p2,p3⟩:=OV (a:=a) (dst:=o.dst) (x:=x);have C:∀{j},Li (listed.setIfInBounds i true) j↔j=i∨Li listed j:=Gy ab;have aq:¬Li listed i:=fun h=>hh.new (hj.sub i h)
 have E:∀j∈done,∀k,fl ops j=some k->t₁.get (posOf k)=t.get (posOf k):=fun j I k hk=>f1 k fun e=>by
  have:=X.uniq i j k (by rw[F];exact e) hk;subst this;exact hh.new I
 refine⟨M,aa,hinv,hj.S9.trans O,by rw[put_defers];exact hj.dr.mono hle,hj.gr.mono hle,by rw[p3];exact hj.Te,by simpa using hj.Qp,fun j h=>?_,⟨hh.dep,hj.ord⟩,fun j h=>?_,fun j h hv=>?_,fun j q hq h L=>?_,fun j q hq h L=>?_,fun j h k hk=>?_,
  fun j k u h hk hu=>?_,fun k u h hu=>?_,fun k hk=>?_,fun j h N=>?_,?_⟩
 ·rcases dn h with rfl | h
  ·exact hh.lt
  exact hj.Tz j h
 ·rcases C.1 h with rfl | h
  ·simp_all
  exact mC_ _<|hj.sub j h
 ·rcases dn h with rfl | h
  ·simp_all
  exact C.2 (.inr<|hj.kg j h hv)
 ·rcases C.1 h with rfl | h
  ·simp_all
  exact C.2 (.inr<|hj.closed j q hq h L)
 ·rcases dn h with rfl | h
  ·exact mC_ _<|yj X hh.lt hh.dep hj.lK q hq L
  exact mC_ _<|hj.lK j q hq h L
 ·rcases dn h with rfl | h
  ·simp_all
  exact hj.UU j h k hk
 ·by_cases e:j=i
  ·subst e;rw[F] at hk;obtain⟨q1,q2⟩:=f2 k hk;rw[p2 k hk (by rw[hj.Te];exact q1)]
   simp_all
  have hL:=(C.1 h).resolve_left e;rw[p1 k (fun e'=>e (X.uniq j i k hk (by rw[F];exact e')))];rw[E j (hj.sub j hL) k hk] at hu;exact VR.mono hle _ _<|hj.F0 j k u hL hk hu
 ·rw[p1 k (fun e'=>h i (C.2 (.inl Z)) (by rw[F];exact e'))];obtain⟨q1,q2⟩:=hj.FZ k u (fun j hL=>h j (C.2 (.inr hL))) hu;exact⟨q1,VR.mono hle _ _ q2⟩
 ·rw[f1 k (fun e=>hk i (mS_ ..) (by rw[F];exact e))];exact hj.same k fun j h=>hk j (mC_ _ h)
 ·have ac:j≠i:=fun e=>N (C.2 (.inl e))
  have Q:¬Li listed j:=fun hL=>N (C.2 (.inr hL))
  have I:j∈done:=(dn h).resolve_left ac;refine(hj.FD j I Q).again X (fun k hk=>?_) (fun k hk=>?_) (fun am=>?_) (fun b hb=>O.ext b hb) O.next
  ·rcases hk with hk | ⟨q,hq,hk⟩
   ·grind
   exact E q (hj.lK j q (mw hk) I hq) k hk
  ·rw[f1 k (fun e=>hk i (by rw[F];exact e))];exact hj.same k fun j _=>hk j
  rcases hh.again hl j I am with L | hm
  ·exact absurd (hr j (hj.Tz j I) L) Q
  exact uV K hm
 intro j q o' o'' k k' u u' b h1 h2 h3 h4 h5 h6 h7 h8 h9 R T W ao ap;have m1:j∈done:=(dn h1).resolve_left fun e=>h3 (C.2 (.inl e))
 have m2:q∈done:=(dn h2).resolve_left fun e=>h4 (C.2 (.inl e))
 rw[E j m1 k h9] at T;rw[E q m2 k' R] at W;exact hj.apart j q o' o'' k k' u u' b m1 m2 (fun hL=>h3 (C.2 (.inr hL))) (fun hL=>h4 (C.2 (.inr hL))) h5 h6 h7 h8 h9 R T W ao ap
theorem FL {i:Nat} (C:listed.size=ops.size) (h:i∈Region.ready .any ops listed):i<ops.size/\¬Li listed i/\∀j,waits ops i j=true->Li listed j:=by
 obtain⟨h1,o,E,F⟩:=mem_ready.1 h;have hlt:=(aS_.1 E).1;refine⟨hlt,(Oz (by rw[C];exact hlt)).1 h1,fun j hw=>?_⟩;obtain⟨o',u,e,he,hb,rfl⟩:=se.1 hw;rw[E] at u;cases u;exact F e he hb
theorem FK {i:Nat} (C:listed.size=ops.size) (u:i<ops.size) (hn:¬Li listed i) (hw:∀j,waits ops i j=true->Li listed j):i∈Region.ready .any ops listed:=
 mem_ready.2 ⟨(Oz (by rw[C];exact u)).2 hn,ops[i]' u,aG_ u,fun e he hb=>hw _ (se.2 ⟨_,aG_ u,e,he,hb,Z⟩)⟩
theorem B0:∀{done:List Nat},Ord ops done->(∃i∈done,¬Li listed i)->∃i∈done,¬Li listed i/\∀j,waits ops i j=true->Li listed j
 | [],_,⟨i,hi,_⟩=>by cases hi
 | i::r,C,⟨q,hq,hn⟩=>by
  by_cases E:∃j∈r,¬Li listed j
  ·obtain⟨j,h1,h2,h3⟩:=B0 C.2 E
   grind
  have u:∀j∈r,Li listed j:=fun j hj=>zo_ fun h=>E ⟨j,hj,h⟩
  rcases dn hq with rfl | hq
  ·exact⟨q,mS_ ..,hn,fun j hw=>u j (C.1 j hw)⟩
  simp_all
theorem J.all (hs:Shape P ops A) (hj:J P G ih ops A n d fin ρ₀ σ₀ w₀ t₀ l done t V listed U w a) (hr:Region.ready .any ops listed= []):∀i,i<ops.size->Li listed i:=by
 have u:∀i∈done,Li listed i:=fun i hi=>zo_ fun h=>by
  obtain⟨q,h1,C,h3⟩:=B0 hj.ord ⟨i,hi,h⟩;have:=FK hj.Qp (hj.Tz q h1) C h3
  simp_all
 intro i hi;cases l with
 | nil=>
  have:=hj.ok;exact u i<|this i hi
 | cons p l=>
  obtain⟨q,rc⟩:=p;obtain⟨hh,_⟩:=hj.ok;have:=FK (listed:=listed) hj.Qp hh.lt (fun h=>hh.new (hj.sub q h)) (fun j hw=>u j (hh.dep j hw))
  simp_all
theorem J.finish (hs:Shape P ops A) (hj:J P G ih ops A n d fin ρ₀ σ₀ w₀ t₀ l done t V listed U w a) (u:∀i,i<ops.size->Li listed i):fin= .ok .normal t d V/\TR U t n a.tmps:=by
 cases l with
 | nil=>
  refine⟨hj.run.symm,hj.Te,fun k v hv=>?_⟩
  by_cases hw:∃i,fl ops i=some k
  ·obtain⟨i,hi⟩:=hw;have hL:=u i (mw hi);exact⟨hj.UU i (hj.sub i hL) k hi,hj.F0 i k v hL hi hv⟩
  rw[hj.same k fun i _ hi=>hw ⟨i,hi⟩] at hv;exact hj.FZ k v (fun i _ hi=>hw ⟨i,hi⟩) hv
 | cons p l=>
  obtain⟨q,rc⟩:=p;obtain⟨hh,_⟩:=hj.ok;exact absurd (hj.sub q<|u q hh.lt) hh.new
def left (N:Nat) (listed:Array Bool):Nat:=(List.range N).countP fun i=> !listed.getD i false
theorem BA {α:Type} {p q:α->Bool}:∀{l:List α} {x:α},(∀y∈l,q y=true->p y=true)->x∈l->p x=true->q x=false->l.countP q<l.countP p
 | [],x,_,hx,_,_=>by cases hx
 | y::l,x,h,hx,hp,hq=>by
  have hle:l.countP q<=l.countP p:=List.countP_mono_left fun z u=>h z (mC_ _ u)
  rcases dn hx with rfl | hx
  ·grind
  have:=BA (fun z u=>h z (mC_ _ u)) hx hp hq
  grind
theorem Od {N i:Nat} (hi:i<N) (u:listed.size=N) (hn:¬Li listed i):left N (listed.setIfInBounds i true)<left N listed:=by
 refine BA (x:=i) (fun y _ hy=>?_) (List.mem_range.2 hi) ?_ ?_
 ·by_cases h:Li listed y
  ·have:Li (listed.setIfInBounds i true) y:=(Gy (by rw[u];exact hi)).2 (.inr h);unfold Li at this
   simp_all
  unfold Li at h;simpa using h
 ·unfold Li at hn;simpa using hn
 simp_all
theorem Lq {N:Nat} (h:left N listed=0):∀i,i<N->Li listed i:=fun i hi=>by
 have:=List.countP_eq_zero.1 h i (List.mem_range.2 hi);unfold Li;simpa using this
theorem Inv.lay (hi:Inv U V w) {b:Pos} {l:Loc} {x:Obj} (hb:V.m.get b=some ob) (hn:U b=none) (aa:b.num<V.next.num) (hl:l.de=w.heap.size) (L:gz U l ob x):Inv (U.with b l) V (w.alloc x)/\U.le (U.with b l):=by
 have hle:U.le (U.with b l):=fun b' l' u=>by
  grind [Ren.ej]
 have hold:∀b' l',b'≠b->(U.with b l) b'=some l'->U b'=some l':=fun b' l' hne h=>by rwa[Ren.ej U l hne] at h
 have C:Old (U.with b l) V (w.alloc x):=by
  refine⟨by have:=hi.oW.size;simp;omega,fun r F=>by rw[heap_alloc_old w x<|zh_ F hi.oW.size];exact hi.oW.same r F,fun r F ⟨b',o',l',h1,K,h3,I⟩=>?_⟩
  by_cases e:b'=b
  ·subst e;rw[Ren.cU] at h3;cases h3;have:=hi.oW.size;omega
  exact hi.oW.no r F ⟨b',o',l',h1,K,hold b' l' e h3,I⟩
 refine⟨⟨⟨fun b' u=>?_,fun b' l' u=>?_,fun b' o' l' u E=>?_,fun b₁ b₂ o₁ o₂ l₁ l₂ h1 K h3 I h5 M=>?_⟩,C⟩,hle⟩
 ·have hne:b'≠b:=fun e=>by subst e;omega
  rw[Ren.ej U l hne];exact hi.fresh b' u
 ·simp only[World.size_alloc]
  by_cases e:b'=b
  ·subst e;rw[Ren.cU] at u;cases u;omega
  have:=hi.de b' l' (hold b' l' e u);omega
 ·by_cases e:b'=b
  ·subst e;rw[Ren.cU] at E;cases E;rw[hb] at u;cases u;exact⟨x,by rw[hl];exact heap_alloc_new w x,L.mono hle⟩
  have h':=hold b' l' e E;obtain⟨y,hy,F⟩:=hi.obj b' o' l' u h';exact⟨y,by rw[heap_alloc_old w x<|hi.de b' l' h'];exact hy,F.mono hle⟩
 by_cases e1:b₁=b<;>by_cases e2:b₂=b
 ·simp_all
 ·subst e1;rw[Ren.cU] at h3;cases h3;have:=hi.de b₂ l₂ (hold b₂ l₂ e2 I);omega
 ·subst e2;rw[Ren.cU] at I;cases I;have:=hi.de b₁ l₁ (hold b₁ l₁ e1 h3);omega
 exact hi.inj b₁ b₂ o₁ o₂ l₁ l₂ h1 K (hold b₁ l₁ e1 h3) (hold b₂ l₂ e2 I) h5 M
theorem eH.lay (O:eH ρ₀ σ₀ w₀ U V w) {b:Pos} {l:Loc} {x:Obj} (aa:σ₀.next.num<=b.num) (hl:l.de=w.heap.size):eH ρ₀ σ₀ w₀ (U.with b l) V (w.alloc x):=by
 refine⟨fun b' u=>?_,O.next,by have:=O.size;simp;omega,fun r C hn=>?_,?_,O.tape,O.os,O.out⟩
 ·rw[Ren.ej U l (fun e=>by subst e;omega)];exact O.ext b' u
 ·rw[heap_alloc_old w x (by have:=O.size;omega)];exact O.frame r C hn
 rintro r ⟨b',o',l',h1,E,h3,rfl⟩ C
 by_cases e:b'=b
 ·subst e;rw[Ren.cU] at h3;cases h3;have:=O.size;omega
 rw[Ren.ej U l e] at h3;exact O.wr _ ⟨b',o',l',h1,E,h3,Z⟩ C
theorem J.take (L:Shape P ops A) (hj:J P G ih ops A n d fin ρ₀ σ₀ w₀ t₀ l done t V listed U w a) {i:Nat} (F:i∈done) (hn:¬Li listed i) (hw:∀j,waits ops i j=true->Li listed j) (rl:Option Nat) (m:Nat) {Q:Exit->Act->World->Prop} {K:Act->World->Prop}
  (T:∀ρ₁ w₁ a₁,J P G ih ops A n d fin ρ₀ σ₀ w₀ t₀ l done t V (listed.setIfInBounds i true) ρ₁ w₁ a₁->K a₁ w₁):wpOpIn (lM rl) m P ops Q i K a w:=by
 have hr:=yl L (hj.Tz i F) hw hj.closed;obtain⟨o,ti,I,h1,h2,bw,h3,h4,h5⟩:=hj.FD i F hn;have hlook:=hj.look L I hn hr h1 h2;unfold wpOpIn;rw[I];dsimp only;rw[wW hj.Te hlook h3];cases bw with
 | false=>
  simp only[zi_,if_false];exact⟨fun f _=>nq rl f,T U w _<|hj.behind L I F hn hr (fun k v hk hv=>by rw[h4 Z k hk] at hv;cases hv;exact xF) hj.inv hj.S9 (fun _ _ h=>h) fun j C E _=>hj.FD j C E⟩
 | true=>
  simp only[if_true];have W:ER U (bA G ti) a.eval o.op:=Jn hj.gr hlook;have hv:=h5 Z;unfold nb at hv;have M:kindOf P o.op≠ .kg->∀c,o.op≠ .defer c:=fun hk c e=>hk (by rw[e];rfl)
  unfold Oper.wpIn;refine⟨fun f _=>nq rl f,?_⟩;cases hk:kindOf P o.op with
  | kg=>simp_all
  | pure=>
   rw[hk] at hv;obtain⟨v,g1,X⟩:=hv;obtain⟨x,hx,N⟩:=zW (P:=P) (w:=w) W g1;rw[Oper.semAt_eq _ _ _<|M (by rw[hk];simp),hx,Oper.uponIn_value];exact T U w _<|hj.behind L I F hn hr (fun k u hk hu=>by simp_all) hj.inv hj.S9 (fun _ _ h=>h) fun j C E _=>hj.FD j C E
  | read=>
   rw[hk] at hv;obtain⟨v,g1,X⟩:=hv;obtain⟨x,hx,N⟩:=z1 (P:=P) hj.inv W g1;rw[Oper.semAt_eq _ _ _<|M (by rw[hk];simp),hx,Oper.uponIn_value];exact T U w _<|hj.behind L I F hn hr (fun k u hk hu=>by simp_all) hj.inv hj.S9 (fun _ _ h=>h) fun j C E _=>hj.FD j C E
  | alloc=>
   rw[hk] at hv;obtain⟨ob,mk,b,g1,X,g3,g4,g5,g6⟩:=hv;obtain⟨x,ob',c,hx,am,aa,N⟩:=wx (P:=P) (w:=w) W g1;rw[Oper.semAt_eq _ _ _<|M (by rw[hk];simp),hx,Oper.uponIn_value];obtain⟨inv,hle⟩:=hj.inv.lay (l:=⟨w.heap.size,0,c⟩) X g3 g5 Z aa;obtain⟨kd,R⟩:=L.dst i o I (by simp[gh,vO,I,hk]);refine T _ _ _<|hj.behind L I F hn hr (fun k u hk hu=>by grind [Ren.cU]) inv (hj.S9.lay g4 Z) hle fun j C E ab=>?_;refine(hj.FD j C E).Yr L fun b' ac hb'n=>?_
   obtain⟨o',k',v',q1,q2,q3,q4,q5⟩:=ac;rw[Ren.ej]
   ·exact hb'n
   intro e;subst e;exact ab<|hj.apart j i o' o k' kd v' (mk.of b') b' C F E hn q1 I q2 hk q3 (by rw[iP I];exact R) q4 (g6 kd R) q5<|CV mk b'
theorem Ns (I:Shape P ops A) (hS:Sound P G ih) (rl:Option Nat) (m:Nat) {Q:Exit->Act->World->Prop} {e:Ex} {t':PT Y} {d':List DE} {V':D} (E:fin= .ok e t' d' V')
  (hQ:∀(U':Ren) (w':World) (a':Act),Inv U' V' w'->eH ρ₀ σ₀ w₀ U' V' w'->TR U' t' n a'.tmps->DR U' d' a'.defers->Qx Q U' e a' w'):
  ∀(fuel:Nat) (l:List (Nat×List Nat)) (done:List Nat) (t:PT Y) (V:D) (listed:Array Bool) (U:Ren) (w:World) (a:Act),J P G ih ops A n d fin ρ₀ σ₀ w₀ t₀ l done t V listed U w a->left ops.size listed<=fuel->
   wpAnyIn (lM rl) m P .any ops Q fuel listed a w:=by
 have K:∀{l done t V listed U w a},J P G ih ops A n d fin ρ₀ σ₀ w₀ t₀ l done t V listed U w a->Region.ready .any ops listed= []->Q .normal a w:=fun {l done t V listed U w a} hj hr=>by
  obtain⟨h1,T⟩:=hj.finish I (hj.all I hr);rw[E] at h1;cases h1;exact hQ U w a hj.inv hj.S9 T hj.dr _ Z
 intro fuel;induction fuel with
 | zero=>
  intro l done t V listed U w a hj hf;have hall:=Lq (Nat.le_zero.1 hf)
  have hr:Region.ready .any ops listed= []:=by
   apply List.eq_nil_iff_forall_not_mem.2;intro i hi;obtain⟨h1,T,_⟩:=FL hj.Qp hi;exact T<|hall i h1
  exact⟨hr,K hj hr⟩
 | succ fuel ihf=>
  intro l done t V listed U w a hj hf;refine⟨fun hr=>K hj hr,fun i hi=>?_⟩;obtain⟨l,done,t,V,hj,L⟩:=J.advance I (fun k=>by rw[E];simp) l done t V hj;obtain⟨C,hn,hw⟩:=FL hj.Qp hi;have M:left ops.size (listed.setIfInBounds i true)<=fuel:=by have:=Od C hj.Qp hn;omega
  by_cases N:i∈done
  ·exact hj.take I N hn hw rl m fun ρ₁ w₁ a₁ hj₁=>ihf _ _ _ _ _ _ _ _ hj₁ M
  
  rcases L with rfl | ⟨q,rc,r,rfl,hl⟩
  ·have:=hj.ok;exact absurd (this i C) N
  obtain⟨hh,_⟩:=hj.ok
  have X:i=q:=zo_ fun hne=>by
   obtain⟨x,h1,T⟩:=hh.alone hl i C N hne;exact T<|hj.sub x<|hw x h1
  subst X;have hr:=yl I C hw hj.closed;obtain⟨o,R⟩:∃o,ops[i]? =some o:=⟨ops[i]' C,aG_ C⟩;have hlook:=hj.look I R hn hr (ti:=t) (fun _ _ _ _ _=>Z) (hj.zg I R hh.new)
  have u:(match ops[i]? with
   | some o=>iS P G ih false ops n o t V (fun t' V'=>bif dw P G ops t' V' rc then ki P G ih ops n d r t' V' else .err 86)
   | none=>.err 87)=fin:=hj.run
  rw[R,E] at u;dsimp only at u
  have F:∀t₁ σ₁,(bif dw P G ops t₁ σ₁ rc then ki P G ih ops n d r t₁ σ₁ else .err 86)= .ok e t' d' V'->dw P G ops t₁ σ₁ rc=true/\ki P G ih ops n d r t₁ σ₁=fin:=fun t₁ σ₁ h=>by
   grind
  unfold iS at u;unfold wpOpIn;rw[R];dsimp only;cases W:bH ops t o with
  | none=>simp_all
  | some bw=>
   rw[W] at u;rw[wW hj.Te hlook W];cases bw with
   | false=>
    dsimp only at u;simp only[zi_,if_false];cases hp:dA t n o.dst unit with
    | none=>simp_all
    | some t₁=>
     rw[hp] at u;obtain⟨c1,c2⟩:=F _ _ u;exact⟨fun f _=>nq rl f,ihf _ _ _ _ _ _ _ _ (hj.PF I hl R hr hp c1 c2 xF hj.inv<|eH.refl _ _ _) M⟩
   | true=>
    dsimp only at u;simp only[if_true];cases he:lr P G ih (dM P G (bA G t) V o.op) with
    | err k=>simp_all
    | kG v σ₁=>rw[he] at u;cases u
    | ret v σ₁=>
     rw[he] at u;dsimp only at u;cases hp:dA t n o.dst v with
     | none=>simp_all
     | some t₁=>
      rw[hp] at u;obtain⟨c1,c2⟩:=F _ _ u;exact Fv hS hj.inv hj.gr (Jn hj.gr hlook) he rl m fun ρ₁ w₁ x inv st hv=>ihf _ _ _ _ _ _ _ _ (hj.PF I hl R hr hp c1 c2 hv inv st) M
end
variable {ps:Array Tmp} {d₁:List DE} {fuel:Nat} {rl:Option Nat} {U:Ren}
section
variable {P:Program} {G:Cx}
theorem jv {b:Frame} {a:Act} {k:List Item} {cs:List Frame} {w:World} {c:Code}:step P (lone (b.atR a (.code (.scope c)::k)) cs w)= .next (lone (b.atR a (.code c:: .inScope c::k)) cs w):=
 step_lone_go (by simp[stepG,stepG.exec,Frame.atR])
theorem AZ {b:Frame} {a:Act} {k:List Item} {cs:List Frame} {w:World} {c:Code}:step P (lone (b.atR a (.inScope c::k)) cs w)= .next (lone (b.atR a k) cs w):=
 step_lone_go (by simp[stepG,stepG.exec,Frame.atR])
theorem Iz {F:Fence} {n:Nat} {c:Code} {Q:Exit->Act->World->Prop} {a:Act} {w:World} (h:c.wpIn F n P (Exit.noGoto Q) a w):(Code.scope c).wpIn F n P Q a w:=by
 intro b k cs A hb C;have h0:(lone (b.atR a (.code (.scope c)::k)) cs w).fenced P F:=fenced_calm hb C Z;obtain⟨e,a₁,w₁,hq,u⟩:=h b (.inScope c::k) cs A hb C;cases e with
 | normal=>exact⟨.normal,a₁,w₁,hq,.head h0 jv<|StepsIn.trans u (.one (fenced_calm hb C Z) AZ)⟩
 | exit id'=>
  have hx:exitTo id' (.inScope c::k)=exitTo id' k:=by simp[exitTo]
  exact⟨.exit id',a₁,w₁,hq,fun k' hk=>.head h0 jv (u.1 k' (by rw[hx];exact hk)),
   fun E hk=>let ⟨k₁,h1,I⟩:=u.2 E (by rw[hx];exact hk);⟨k₁,h1,.head h0 jv I⟩⟩
 | goto l=>exact hq.elim
 | ret=>exact⟨_,a₁,w₁,hq,.of_steps (.one h0 jv) u⟩
 | panic ch=>exact⟨_,a₁,w₁,hq,.of_steps (.one h0 jv) u⟩
 | outgrown=>exact⟨_,a₁,w₁,hq,.of_steps (.one h0 jv) u⟩
theorem kD {N i:Nat}:¬Li (Array.replicate N false) i:=by
 unfold Li;rw[Array.getD_eq_getD_getElem?,Array.getElem?_replicate];split<;>simp
theorem G1 (F:Sound P G ih) {n:Nat} {d:List DE} {t:PT Y} {e:Ex} {t':PT Y} {d':List DE} {V':D} (h:wH P G ih ops n d t V= .ok e t' d' V')
  {w:World} {a:Act} (hi:Inv U V w) (I:GR U G) (E:TR U t n a.tmps) (K:DR U d a.defers) (rl:Option Nat) (m:Nat) {Q:Exit->Act->World->Prop}
  (L:∀(U':Ren) (w':World) (a':Act),Inv U' V' w'->eH U V w U' V' w'->TR U' t' n a'.tmps->DR U' d' a'.defers->Qx Q U' e a' w'):
  wpAnyIn (lM rl) m P .any ops Q ops.size (Array.replicate ops.size false) a {w with drawn:=w.drawn+1}:=by
 unfold wH at h;rw[bB] at h;split at h
 ·rename_i hc;obtain⟨M,C⟩:=Q9 hc;refine Ns (A:=CP P ops) (n:=n) (d:=d) (t₀:=t) (ρ₀:=U) (σ₀:=V) (w₀:=w) M F rl m Z L ops.size (lS P ops) [] t V _ U _ a ?_ ?_
  ·refine⟨h,C,hi.drew,eH.drew U V w,K,I,E.1,by simp,fun i hi=>(by cases hi),trivial,fun i u=>absurd u kD,fun i hi=>(by cases hi),fun i j _ u=>absurd u kD,fun i j _ hi=>(by cases hi),fun i hi=>(by cases hi),
    fun i k v u=>absurd u kD,fun k v _ hv=>E.2 k v hv,fun _ _=>Z,fun i hi=>(by cases hi),?_⟩
   simp_all
  exact Nat.le_trans List.countP_le_length (by simp)
 cases h
theorem EO {ro:Option Pos} {d:List DE} {V σ₁:D} {df:Pos} {w:World} {a:Act} {t:PT Y} {n:Nat} (h:vR ro d V=some (df,σ₁,d₁)) (hi:Inv U V w) (I:TR U t n a.tmps) (K:DR U d a.defers) (A:RO U ro rl)
  (fn:FuncId) (ps:Array Tmp) (assign body:Code):
  ∃l mark w₁ ρ₁,(Instr.enterLoop fn a.tmps ps assign body rl).run P w= .ok (l,mark) w₁/\Inv ρ₁ (σ₁.alloc (.loop .ready none t n ps.toList assign body df)) w₁/\eH U V w ρ₁ (σ₁.alloc (.loop .ready none t n ps.toList assign body df)) w₁/\
   ρ₁ σ₁.next=some ⟨l,0,0⟩/\DR ρ₁ d₁ (mark++a.defers):=by
 unfold vR at h;cases ro with
 | none=>
  cases rl with
  | some _=>exact A.elim
  | none=>
  cases h;obtain⟨C,L⟩:=hi.alloc (o:=.mark) (x:=.deferred<|some []) (l:=⟨w.heap.size,0,0⟩) Z Z;have hle1:=L.le hi
  obtain⟨E,u⟩:=C.alloc (o:=.loop .ready none t n ps.toList assign body V.next) (x:=.loop {state:=.ready,pending:=none,fn:=fn,tmps:=a.tmps,params:=ps,assign:=assign,body:=body,defers:=w.heap.size}) (l:=⟨w.heap.size+1,0,0⟩) (by simp)
   ⟨fn,a.tmps,⟨w.heap.size,0,0⟩,by simp,Ren.cU _ _ _,I.mono hle1⟩
  refine⟨_,_,_,_,run_enterLoop_outer fn a.tmps ps assign body,E,L.trans u,Ren.cU _ _ _,?_⟩;exact⟨⟨w.heap.size,0,0⟩,a.defers,u.le C _ _<|Ren.cU _ _ _,Z,K.mono (fun b l hb=>u.le C _ _ (hle1 b l hb))⟩
 | some b=>
  cases rl with
  | none=>exact A.elim
  | some l₀=>
  obtain⟨loc,hl,rfl⟩:=A;dsimp only at h;cases hb:V.m.get b with
  | none=>rw[hb] at h;cases h
  | some ob=>
  rw[hb] at h;cases ob with
  | loop st p tmps n' ps' asg' bd df'=>
   cases h;obtain⟨x,hh,fn',tmps',l',rfl,F,aa⟩:=hi.obj b _ loc hb hl
   obtain⟨E,u⟩:=hi.alloc (o:=.loop .ready none t n ps.toList assign body df) (x:=.loop {state:=.ready,pending:=none,fn:=fn,tmps:=a.tmps,params:=ps,assign:=assign,body:=body,defers:=l'.de}) (l:=⟨w.heap.size,0,0⟩) Z
    ⟨fn,a.tmps,l',by simp,F,I⟩
   exact⟨_,_,_,_,run_enterLoop_inner hh fn a.tmps ps assign body,E,u,Ren.cU _ _ _,K.mono<|u.le hi⟩
  | _=>cases h
theorem As {K:Act->World->Prop} {Q:Exit->Act->World->Prop} {e:Ex} {a:Act} {w:World} (he:e≠ .normal) (h:Qx Q U e a w):Qx (Exit.then K Q) U e a w:=by
 intro E u;have h':=h E u;cases e with
 | normal=>exact absurd Z he
 | kG v=>obtain⟨x,rfl,_⟩:=u;exact h'
 | exit i=>have u:E= .exit i:=u;subst u;exact h'
 | goto i=>have u:E= .goto i:=u;subst u;exact h'
 | ret=>have u:E= .ret:=u;subst u;exact h'
theorem FH (X:Sound P G ih) {g:Operand} {assign body:Code} {t:PT Y} {n:Nat} {d:List DE} {ro:Option Pos} {e:Ex} {t':PT Y} {d':List DE} {V':D}
  (h:qV P G ih g ps assign body t n d ro V= .ok e t' d' V') {w:World} {a:Act} {m:Nat} {Q:Exit->Act->World->Prop} (hi:Inv U V w) (I:GR U G) (E:TR U t n a.tmps) (hd:DR U d a.defers) (hr:RO U ro rl)
  (hQ:∀(U':Ren) (w':World) (a':Act),Inv U' V' w'->eH U V w U' V' w'->TR U' t' n a'.tmps->DR U' d' a'.defers->Qx Q U' e a' w'):(Code.rangeFunc g ps assign body).wpIn (lM rl) m P Q a w:=by
 unfold qV at h;cases hm:vR ro d V with
 | none=>rw[hm] at h;cases h
 | some q=>
 obtain⟨df,σ₁,d₁⟩:=q;rw[hm] at h;dsimp only at h;cases hv:bA G t g with
 | none=>rw[hv] at h;cases h
 | some fv=>
 rw[hv] at h;cases fv with
 | func f fi ca=>
  dsimp only at h;rw[bB] at h;split at h
  ·rename_i K;refine wpIn_rangeFunc fun fn _=>?_
   obtain⟨l,mark,w₁,ρ₁,g1,F,g3,g4,g5⟩:=EO (P:=P) hm hi E hd hr fn ps assign body;have hle:=g3.le hi;have hfv:=jb (a:=a) I E hv;simp only[VR] at hfv;obtain⟨fi',ca',L,M,N⟩:=hfv
   have A:(resolve a.eval (rangeCall g l) 0).run P w₁= .ok {target:=.fn (.func f) ca',args:=fi'++ #[.func (.yield l) #[] #[]]} w₁:=by
    have R:(#[Operand.const (.func (.yield l) #[] #[])]).map a.eval= #[.func (.yield l) #[] #[]]:=by simp[Act.eval]
    simp only[resolve,rangeCall,R,L,Deferred.ofValue,sP_]
   have hinv:(invoke (.fn (.func f) ca') (fi'++ #[.func (.yield l) #[] #[]])).run P w₁= .ok (.enter f (fi'++ #[.func (.yield l) #[] #[]]++ca')) w₁:=by
    simp only[invoke];exact zq K
   refine⟨l,mark,w₁,_,w₁,f,_,w₁,by rw[He];exact g1,A,fun f' _=>nq rl f',hinv,rK rl m,?_⟩;cases hc:j0 P G ih f (gV fi (.yield σ₁.next::ca)) (σ₁.alloc (.loop .ready none t n ps.toList assign body df)) with
   | err k=>rw[hc] at h;cases h
   | kG v σ₃=>rw[hc] at h;cases h
   | ret v σ₃=>
   rw[hc] at h;dsimp only at h;refine s8 X hc F (I.mono hle) ?_ rl _ fun ρ₃ w₃ x i₃ s₃ hx=>?_
   ·rw[dU];have:(fi'++ #[Value.func (.yield l) #[] #[]]++ca').toList=fi'.toList++(.func (.yield l) #[] #[]::ca'.toList):=by simp
    rw[this];refine di.append (di.mono hle _ _ M)<|di.cons ?_<|di.mono hle _ _ N;simp only[VR];exact⟨_,g4,Z⟩
   have hl₃:=s₃.le F _ _ g4;have hle₃:U.le ρ₃:=fun b l hb=>s₃.le F _ _ (hle b l hb)
   unfold vw at h;cases hb:σ₃.m.get σ₁.next with
   | none=>rw[hb] at h;cases h
   | some ob=>
   rw[hb] at h;cases ob with
   | loop st p tmps n' ps' asg bd df'=>
    dsimp only at h;obtain⟨y,hh,fn',tmps',l',rfl,T,W⟩:=i₃.obj _ _ _ hb hl₃;have C:st≠ .busy:=fun O=>by subst O;cases h
    have h':(match p with
      | none=>CR.ok .normal t d₁ (σ₃.setObj σ₁.next (.loop .exhausted none tmps n' ps' asg bd df'))
      | some c=>ih c t n d₁ ro (σ₃.setObj σ₁.next (.loop .exhausted (some c) tmps n' ps' asg bd df')))= .ok e t' d' V':=by
     cases st<;>first | exact absurd rfl C | exact h
    obtain⟨i₄,s₄⟩:=i₃.putObj (o':=.loop .exhausted p tmps n' ps' asg bd df') hb hl₃ Z Z
     (x:=.loop {state:=.exhausted,pending:=p,fn:=fn',tmps:=tmps',params:=ps'.toArray,assign:=asg,body:=bd,defers:=l'.de}) ⟨fn',tmps',l',Z,T,W⟩
    refine⟨p,_,run_endLoop hh C,?_⟩;have O:=(g3.trans s₃).trans s₄;have u:ρ₁.le ρ₃:=s₃.le F;cases p with
    | none=>
     cases h';exact hQ ρ₃ _ {a with defers:=mark++a.defers} i₄ O (E.mono hle₃) (g5.mono u) _ Z
    | some c=>
     exact X.run c t n d₁ ro _ e t' d' V' h' ρ₃ _ {a with defers:=mark++a.defers} rl m Q i₄ (I.mono hle₃) (E.mono hle₃) (g5.mono u) (hr.mono hle₃) fun U' w' a' i' s' t'' d''=>hQ U' w' a' i' (O.trans s') t'' d''
   | _=>cases h
  cases h
 | _=>cases h
theorem LZ (hm:P.follows .mixedOrders=true) (R:AG P G) (k:Nat):Sound P G (ed P G k):=by
 induction k using Nat.strongRecOn with
 | _ k ihk=>
  cases k with
  | zero=>exact⟨R,fun c t n d ro V e t' d' V' h=>by cases h⟩
  | succ j=>
   have hS:=ihk j (Nat.lt_succ_self j);refine⟨R,fun c t n d ro V e t' d' V' h U w a rl m Q hi I F K L C=>?_⟩;have h:JV P G (ed P G j) c t n d ro V= .ok e t' d' V':=h;cases c with
   | skip=>cases h;exact wpIn_skip<|C U w a hi (eH.refl _ _ _) F K _ Z
   | label l=>cases h;exact wpIn_label<|C U w a hi (eH.refl _ _ _) F K _ Z
   | exit id=>cases h;exact wpIn_exit<|C U w a hi (eH.refl _ _ _) F K _ Z
   | ret=>cases h;exact wpIn_ret<|C U w a hi (eH.refl _ _ _) F K _ Z
   | region id ops draw=>
    cases draw with
    | false=>
     have h':(bif mJ ops.toList then .err 96 else EZ d (uE P G (ed P G j) ops n d ops.toList t V))= .ok e t' d' V':=h;refine wpIn_region ?_;rw[bB] at h';split at h'
     ·cases h'
     have:=vV hS rl (m:=m) (Q:=Q) ops.toList 0 Z t V U w a h' hi I F K C;rw[List.range_eq_range'];simpa using this
    | true=>
     have h':wH P G (ed P G j) ops n d t V= .ok e t' d' V':=h
     grind [wpIn_region_any,G1]
   | seq x y=>
    have h':xB (ed P G j x t n d ro V) (fun t d V=>ed P G j y t n d ro V)= .ok e t' d' V':=h;refine wpIn_seq ?_;cases hx:ed P G j x t n d ro V with
    | err q=>rw[hx] at h';cases h'
    | ok e₁ t₁ d₁ σ₁=>
     rw[hx] at h'
     by_cases he:e₁= .normal
     ·subst he;refine hS.run x t n d ro V _ t₁ d₁ σ₁ hx U w a rl m _ hi I F K L fun ρ₁ w₁ a₁ i₁ s₁ ht₁ u E A=>?_
      have A:E= .normal:=A;subst A;have hle:=s₁.le hi;exact hS.run y t₁ n d₁ ro σ₁ e t' d' V' h' ρ₁ w₁ a₁ rl m Q i₁ (I.mono hle) ht₁ u (L.mono hle) fun U' w' a' i' s'=>C U' w' a' i' (s₁.trans s')
     have h'':CR.ok e₁ t₁ d₁ σ₁= .ok e t' d' V':=by cases e₁<;>first | exact absurd rfl he | exact h'
     cases h'';exact hS.run x t n d ro V _ _ _ _ hx U w a rl m _ hi I F K L fun ρ₁ w₁ a₁ i₁ s₁ ht₁ u=>As he (C ρ₁ w₁ a₁ i₁ s₁ ht₁ u)
   | cond x y z=>
    have h':Bz (bA G t x) (ed P G j y t n d ro V) (ed P G j z t n d ro V)= .ok e t' d' V':=h;unfold Bz at h';split at h'
    ·rename_i hv;have:=jb (a:=a) I F hv;simp only[VR] at this;exact wpIn_cond_true this<|hS.run y t n d ro V e t' d' V' h' U w a rl m Q hi I F K L C
    ·rename_i hv;have:=jb (a:=a) I F hv;simp only[VR] at this;exact wpIn_cond_false this<|hS.run z t n d ro V e t' d' V' h' U w a rl m Q hi I F K L C
    cases h'
   | block id x=>
    have h':qh id (ed P G j x t n d ro V)= .ok e t' d' V':=h;refine wpIn_block ?_;cases hx:ed P G j x t n d ro V with
    | err q=>rw[hx] at h';cases h'
    | ok e₁ t₁ d₁ σ₁=>
     rw[hx] at h';refine hS.run x t n d ro V e₁ t₁ d₁ σ₁ hx U w a rl m _ hi I F K L fun ρ₁ w₁ a₁ i₁ s₁ ht₁ u E A=>?_
     cases e₁ with
     | exit q=>
      have A:E= .exit q:=A;subst A;unfold qh at h';dsimp only at h';rw[bB] at h';split at h'
      ·rename_i hq;cases h';have:=nB hq;subst this;simp only[Exit.inBlock,if_true];exact C ρ₁ w₁ a₁ i₁ s₁ ht₁ u _ Z
      rename_i hq;cases h';have hne:¬q=id:=fun e=>hq (by simp_all)
      simp only[Exit.inBlock,if_neg hne];exact C ρ₁ w₁ a₁ i₁ s₁ ht₁ u _ Z
     | normal=>have A:E= .normal:=A;subst A;cases h';exact C ρ₁ w₁ a₁ i₁ s₁ ht₁ u _ Z
     | goto q=>have A:E= .goto q:=A;subst A;cases h';exact C ρ₁ w₁ a₁ i₁ s₁ ht₁ u _ Z
     | ret=>have A:E= .ret:=A;subst A;cases h';exact C ρ₁ w₁ a₁ i₁ s₁ ht₁ u _ Z
     | kG v=>cases h';have h2:=C ρ₁ w₁ a₁ i₁ s₁ ht₁ u E A;obtain⟨y,rfl,_⟩:=A;exact h2
   | scope x=>
    have h':wb (ed P G j x t n d ro V)= .ok e t' d' V':=h;refine Iz ?_;cases hx:ed P G j x t n d ro V with
    | err q=>rw[hx] at h';cases h'
    | ok e₁ t₁ d₁ σ₁=>
     rw[hx] at h';refine hS.run x t n d ro V e₁ t₁ d₁ σ₁ hx U w a rl m _ hi I F K L fun ρ₁ w₁ a₁ i₁ s₁ ht₁ u E A=>?_
     cases e₁ with
     | goto q=>cases h'
     | normal=>have A:E= .normal:=A;subst A;cases h';exact C ρ₁ w₁ a₁ i₁ s₁ ht₁ u _ Z
     | exit q=>have A:E= .exit q:=A;subst A;cases h';exact C ρ₁ w₁ a₁ i₁ s₁ ht₁ u _ Z
     | ret=>have A:E= .ret:=A;subst A;cases h';exact C ρ₁ w₁ a₁ i₁ s₁ ht₁ u _ Z
     | kG v=>cases h';have h2:=C ρ₁ w₁ a₁ i₁ s₁ ht₁ u E A;obtain⟨y,rfl,_⟩:=A;exact h2
   | loop x=>
    refine wpIn_loop_ghost (fun i a₁ w₁=>i<=j+1/\∃t₁ d₁ σ₁ ρ₁,ed P G i (.loop x) t₁ n d₁ ro σ₁= .ok e t' d' V'/\Inv ρ₁ σ₁ w₁/\eH U V w ρ₁ σ₁ w₁/\TR ρ₁ t₁ n a₁.tmps/\DR ρ₁ d₁ a₁.defers) (j+1)
     ⟨nR_ _,t,d,V,U,h,hi,eH.refl _ _ _,F,K⟩ fun i a₁ w₁ T=>?_
    obtain⟨aa,t₁,d₁,σ₁,ρ₁,M,i₁,s₁,ht₁,u⟩:=T;have hle:=s₁.le hi;cases i with
    | zero=>cases M
    | succ i=>
     have hSi:=ihk i oM;have h':xB (ed P G i x t₁ n d₁ ro σ₁) (fun t d V=>ed P G i (.loop x) t n d ro V)= .ok e t' d' V':=M;cases hx:ed P G i x t₁ n d₁ ro σ₁ with
     | err q=>rw[hx] at h';cases h'
     | ok e₂ t₂ d₂ σ₂=>
      rw[hx] at h'
      by_cases he:e₂= .normal
      ·subst he;refine hSi.run x t₁ n d₁ ro σ₁ _ t₂ d₂ σ₂ hx ρ₁ w₁ a₁ rl m _ i₁ (I.mono hle) ht₁ u (L.mono hle) fun ρ₂ w₂ a₂ i₂ s₂ ht₂ N E A=>?_
       have A:E= .normal:=A;subst A;exact⟨i,Nat.lt_succ_self i,by omega,t₂,d₂,σ₂,ρ₂,h',i₂,s₁.trans s₂,ht₂,N⟩
      have h'':CR.ok e₂ t₂ d₂ σ₂= .ok e t' d' V':=by cases e₂<;>first | exact absurd rfl he | exact h'
      cases h'';exact hSi.run x t₁ n d₁ ro σ₁ _ _ _ _ hx ρ₁ w₁ a₁ rl m _ i₁ (I.mono hle) ht₁ u (L.mono hle) fun ρ₂ w₂ a₂ i₂ s₂ ht₂ N=>As he (C ρ₂ w₂ a₂ i₂ (s₁.trans s₂) ht₂ N)
   | rangeFunc g ps assign body=>exact FH hS h hi I F K L C
   | _=>cases h
theorem qx (hm:P.follows .mixedOrders=true) (u:AG P G) {f:Nat} {args:List Y} {V':D} {v:Y} (h:yS P G fuel f args V= .ret v V') {w:World} (hi:Inv U V w) (A:GR U G) (hx:di U args xs.toList)
  {R:Ending->World->Prop} (C:∀(U':Ren) (w':World) (x:Value),Inv U' V' w'->eH U V w U' V' w'->VR U' v x->R (.returned x) w'):Calls P f xs w R:=
 callsIn_wide.1 (s8 (LZ hm u fuel) h hi A hx none 0 C)
end
end Go.Ev
namespace Go.Ev
variable [Env] {H_:Type} {ds:List (DataW H_)} {before pa:List MemPlace} {P:Program} {enc:TypeId×Value->H_}
open Go.ChangeShapes Go.WideShapes Go.ChangeAt Go.RowKit
theorem iK.kept {w w':World} (h:iK w w') (may:MemPlace->Prop):w.keptBut w' may:=by
 refine⟨h.os,h.out.1,fun i hi=>?_⟩;rw[h.same i hi]
 grind
theorem iK.frozen {w w':World} (h:iK w w') (a:Addr) (u:a.block<w.heap.size):w'.frozen? a=w.frozen? a:=by
 unfold World.frozen?;rw[h.same a.block u]
theorem HY {f:Func} {s:ChangeSpec} {apart fresh handsOn again:Bool} {W W':World} {args:Array Value} {v:Value} {gs:List (DataW H_)} {pv:List MemPlace}
  (F:DataW.Whole enc P f.params.toList s.vars apart W args.toList ds gs before)
  (C:∀(b:Nat) (sp:Nat->Bool) (I:Bool),DataW.TrodAll enc P W' b sp I f.resultTypes.toList (v.resultList f.resultTypes.size) (s.fn H_ (ds++gs)).results [])
  (u:∀sp:Nat->Bool,(∀p∈before,sp p.block=true)->DataW.TrodAll enc P W' 0 sp true f.params.toList args.toList (s.fn H_ (ds++gs)).args pa)
  (A:∀sp:Nat->Bool,(∀p∈before,sp p.block=true)->DataW.TrodVars enc P W' sp s.vars (s.fn H_ (ds++gs)).vars pv)
  (aa:before=pa++pv) (hk:iK W W')
  (G:∀(j:Nat) (t:TypeId) (r:Value),f.resultTypes[j]? =some t->(v.resultList f.resultTypes.size)[j]? =some r->Value.okWide P W' .any 0 t r):
  s.post enc P f apart fresh handsOn again W args v W':=by
 have hold:∀p∈before,(fun b=>decide (b<W.heap.size)) p.block=true:=fun p hp=>by simpa using F.lt p hp
 refine⟨ds,gs,before,[],pa,pv,F,C _ _ _,u _ hold,A _ hold,hk.kept _,fun _=>?_⟩;have hlt:=F.lt;obtain⟨_,_,_,_,_,K,hn⟩:=F;refine⟨G,_,_,([]++pa)++pv,⟨[]++pa,pv,trodAll_append (u _ (fun _ _=>Z))<|C _ _ _,A _ (fun _ _=>Z),Z,?_,?_⟩,?_⟩
 ·intro b off hp;have E:MemPlace.cell b off∈before:=by simp_all
  rw[hk.frozen _<|hlt _ E];exact K b off E
 ·simp_all
 simp_all
end Go.Ev
namespace Go.Ev
variable [Env]
variable {G:Cx} {j:Nat} {P:Program}
structure IK where
 k:IntKind
 n:Int
structure PO where
 b:Pos
 off:Nat
structure SL where
 b:Pos
 off:Nat
 len:Nat
def UT:Y->Option IK
 | .int k n=>some ⟨k,n⟩
 | _=>none
def WK:Y->Option PO
 | .ptr b off=>some ⟨b,off⟩
 | _=>none
def Ye:Y->Option SL
 | .slice b off len _=>some ⟨b,off,len⟩
 | _=>none
def Yd:Y->Option Nat
 | .int _ (.ofNat i)=>some i
 | _=>none
def Yc:Y->Option Bool
 | .bool b=>some b
 | _=>none
def Yf:Y->Option (List Y)
 | .tuple l=>some l
 | _=>none
def rowOf:cd->Option (List Y)
 | .row cells _ _=>some cells
 | .own cells _=>some cells
 | _=>none
theorem Eo {v:Y} {i:IK} (h:UT v=some i):v= .int i.k i.n:=by
 unfold UT at h;grind
def pY (V:D) (e:Nat) (v:Option Y):HR:=Option.rec (motive:=fun _=>HR) (.err e) (fun v=>.val v V) v
theorem nz (V:D) (e:Nat) (v:Option Y):pY V e v=match v with | some v=>.val v V | none=>.err e:=by cases v<;>rfl
structure Xz where
 run:PT Y->Option Y
def oC (G:Cx) (x:Operand):Xz:=
 match x with
 | .tmp k=>bif Nat.ble k 255 then⟨fun t=>lf t.s k⟩ else⟨fun t=>t.get k⟩
 | .const v=>⟨fun _=>qM v⟩
 | .global g=>⟨fun _=>bif Nat.ble (Nat.succ g) G.gl then some (.ptr (posOf g) 0) else none⟩
 | .func f=>⟨fun _=>some (.func f [] [])⟩
theorem jf (G:Cx) (x:Operand) (t:PT Y):(oC G x).run t=bA G t x:=by
 cases x with
 | tmp k=>
  show(bif Nat.ble k 255 then(⟨fun t=>lf t.s k⟩:Xz) else⟨fun t=>t.get k⟩).run t=t.get k
  grind [PT.sG,pr]
 | _=>rfl
structure Xx where
 run:Y->Y->Option Y
def N5 (P:Program) (q:Bool) (o:BinOp) (ty:TypeId) (f:IntKind->Int->Int->Y) (a b:Y):Option Y:=
 Option.rec (motive:=fun _=>Option Y) (pV P q o ty a b) (fun i=>Option.rec (motive:=fun _=>Option Y) (pV P q o ty a b) (fun j=>bif uj i.k j.k then some (f i.k i.n j.n) else none) (UT b)) (UT a)
theorem TN {q:Bool} {o:BinOp} {ty:TypeId} {f:IntKind->Int->Int->Y} (h:∀k x k' y,pV P q o ty (.int k x) (.int k' y)=bif uj k k' then some (f k x y) else none) (a b:Y):N5 P q o ty f a b=pV P q o ty a b:=by
 unfold N5;cases u:UT a with
 | none=>rfl
 | some i=>
  cases hb:UT b with
  | none=>rfl
  | some j=>
   rw[Eo u,Eo hb,h]
def Ym (_:IntKind) (x y:Int):Y:=.bool (cW x y)
def Yj (_:IntKind) (x y:Int):Y:=.bool (cW y x)
def Yl (_:IntKind) (x y:Int):Y:=.bool (bif cW y x then false else true)
def Yi (_:IntKind) (x y:Int):Y:=.bool (bif cW x y then false else true)
def Yh (_:IntKind) (x y:Int):Y:=.bool (bD x y)
def Yo (_:IntKind) (x y:Int):Y:=.bool (bif bD x y then false else true)
def WI (k:IntKind) (x y:Int):Y:=.int k (wr k<|Int.add x y)
def Xo (k:IntKind) (x y:Int):Y:=.int k (wr k<|Int.sub x y)
def W1 (k:IntKind) (x y:Int):Y:=.int k (wr k<|Int.mul x y)
def U9 (P:Program) (q:Bool) (o:BinOp) (ty:TypeId):Xx:=
 match o with
 | .lss=>⟨N5 P q .lss ty Ym⟩
 | .gtr=>⟨N5 P q .gtr ty Yj⟩
 | .leq=>⟨N5 P q .leq ty Yl⟩
 | .geq=>⟨N5 P q .geq ty Yi⟩
 | .eql=>⟨N5 P q .eql ty Yh⟩
 | .neq=>⟨N5 P q .neq ty Yo⟩
 | .add=>⟨N5 P q .add ty WI⟩
 | .sub=>⟨N5 P q .sub ty Xo⟩
 | .mul=>⟨N5 P q .mul ty W1⟩
 | o=>⟨fun a b=>pV P q o ty a b⟩
theorem Tw (P:Program) (q:Bool) (o:BinOp) (ty:TypeId) (a b:Y):(U9 P q o ty).run a b=pV P q o ty a b:=by
 cases o<;>first | rfl | exact TN (fun _ _ _ _=>Z) a b
def U7 (c:Xx) (x y:Option Y):Option Y:=
 Option.rec (motive:=fun _=>Option Y) none (fun a=>Option.rec (motive:=fun _=>Option Y) none (fun b=>c.run a b) y) x
def JB (c a b:Option Y):Option Y:=
 Option.rec (motive:=fun _=>Option Y) none (fun c=>Option.rec (motive:=fun _=>Option Y) none (fun c=>bif c then a else b) (Yc c)) c
def Ve (i:Nat) (x:Option Y):Option Y:=
 Option.rec (motive:=fun _=>Option Y) none (fun x=>Option.rec (motive:=fun _=>Option Y) none (fun l=>nth l i) (Yf x)) x
def W0 (ag:Option (Option Nat)) (cells:List Y) (off:Nat):Option Y:=
 Option.rec (motive:=fun _=>Option Y) none (fun o=>Option.rec (motive:=fun _=>Option Y) (nth cells off) (fun n=>bif Nat.ble (Nat.add off n) (dt cells) then some (.agg<|takeN (dZ cells off) n) else none) o) ag
def Fo (ag:Option (Option Nat)) (V:D) (x:Option Y):Option Y:=
 Option.rec (motive:=fun _=>Option Y) none (fun v=>Option.rec (motive:=fun _=>Option Y) none (fun p=>Option.rec (motive:=fun _=>Option Y) none
  (fun o=>Option.rec (motive:=fun _=>Option Y) none (fun cells=>W0 ag cells p.off) (rowOf o)) (V.m.get p.b))<|WK v) x
def ow (P:Program) (s:TypeId) (i:Nat):Option Nat:=
 match structOf P s with
 | some fs=>match fs[i]? with
  | some f=>match wR P f.type with
   | some j=>bif Nat.beq j.size 0 then none else some f.offset
   | none=>none
  | none=>none
 | none=>none
def Wc (k:Option Nat) (x:Option Y):Option Y:=
 Option.rec (motive:=fun _=>Option Y) none (fun k=>Option.rec (motive:=fun _=>Option Y) none (fun v=>Option.rec (motive:=fun _=>Option Y) none (fun p=>some (.ptr p.b<|Nat.add p.off k)) (WK v)) x) k
structure IA where
 n:Option Nat
 sz:Nat
def zh (P:Program) (t:TypeId):Option IA:=
 match pN P t with
 | some (.slice e)=>match wR P e with | some j=>some ⟨none,j.size⟩ | none=>none
 | some (.array n e)=>match wR P e with | some j=>some ⟨some n,j.size⟩ | none=>none
 | _=>none
def WZ (q:IA) (v:Y) (i:Nat):Option Y:=
 Option.rec (motive:=fun _=>Option Y)
  (Option.rec (motive:=fun _=>Option Y) none (fun s=>bif Nat.ble (Nat.succ i) s.len then some (.ptr s.b<|Nat.add s.off<|Nat.mul i q.sz) else none)<|Ye v)
  (fun n=>Option.rec (motive:=fun _=>Option Y) none (fun p=>bif Nat.ble (Nat.succ i) n then some (.ptr p.b<|Nat.add p.off<|Nat.mul i q.sz) else none) (WK v)) q.n
def Wd (q:Option IA) (x i:Option Y):Option Y:=
 Option.rec (motive:=fun _=>Option Y) none (fun q=>Option.rec (motive:=fun _=>Option Y) none (fun v=>Option.rec (motive:=fun _=>Option Y) none
  (fun w=>Option.rec (motive:=fun _=>Option Y) none (fun i=>WZ q v i) (Yd w)) i) x) q
structure WC where
 run:PT Y->D->HR
def EA (P:Program) (G:Cx) (V:D) (f:Option Y) (args:Option (List Y)):HR:=
 Option.rec (motive:=fun _=>HR) (.err 12) (fun g=>Option.rec (motive:=fun _=>HR) (.err 12) (fun args=>Bp P G.ov V g args) args) f
def KS (G:Cx) (l:List Operand) (t:PT Y):Option (List Y):=cX (fun x=>(oC G x).run t) l
def Rx (P:Program) (G:Cx) (op:Op):WC:=
 match op with
 | .move x=>⟨fun t V=>pY V 1001 ((oC G x).run t)⟩
 | .assign x=>⟨fun t V=>pY V 1002 ((oC G x).run t)⟩
 | .pick c a b=>⟨fun t V=>pY V 1003 (JB ((oC G c).run t) ((oC G a).run t) ((oC G b).run t))⟩
 | .binOp o ty x y _=>⟨fun t V=>pY V 1014 (U7 (U9 P (BS x || BS y) o ty) ((oC G x).run t) ((oC G y).run t))⟩
 | .extract x i=>⟨fun t V=>pY V 1036 (Ve i ((oC G x).run t))⟩
 | .load ty x=>⟨fun t V=>pY V 2009 (Fo (dE P ty) V ((oC G x).run t))⟩
 | .fieldAddr s x i=>⟨fun t V=>pY V 1024 (Wc (ow P s i) ((oC G x).run t))⟩
 | .indexAddr ty x i=>⟨fun t V=>pY V 1026 (Wd (zh P ty) ((oC G x).run t) ((oC G i).run t))⟩
 | .call c=>match c.callee with
  | .value f=>⟨fun t V=>EA P G V ((oC G f).run t) (KS G c.args.toList t)⟩
  | _=>⟨fun t V=>dM P G (bA G t) V (.call c)⟩
 | op=>⟨fun t V=>dM P G (bA G t) V op⟩
theorem OC (P:Program) (G:Cx) (op:Op) (t:PT Y) (V:D):(Rx P G op).run t V=dM P G (bA G t) V op:=by
 cases op with
 | move x=>show pY V 1001 ((oC G x).run t)=_;rw[jf,nz];rfl
 | assign x=>show pY V 1002 ((oC G x).run t)=_;rw[jf,nz];rfl
 | pick c a b=>
  show pY V 1003 (JB ((oC G c).run t) ((oC G a).run t) ((oC G b).run t))=_;rw[jf,jf,jf,nz]
  have:JB (bA G t c) (bA G t a) (bA G t b)=dH P (bA G t) (.pick c a b):=by
   simp only[dH,JB];cases bA G t c with
   | none=>rfl
   | some v=>cases v<;>first | rfl | (rename_i b;cases b<;>rfl)
  rw[this];rfl
 | binOp o ty x y r=>
  show pY V 1014 (U7 (U9 P (BS x || BS y) o ty) ((oC G x).run t) ((oC G y).run t))=_;rw[jf,jf,nz]
  have:U7 (U9 P (BS x || BS y) o ty) (bA G t x) (bA G t y)=dH P (bA G t) (.binOp o ty x y r):=by
   simp only[dH,U7];cases bA G t x with
   | none=>rfl
   | some v=>
    cases bA G t y with
    | none=>rfl
    | some u=>exact Tw P _ o ty v u
  rw[this];rfl
 | extract x i=>
  show pY V 1036 (Ve i ((oC G x).run t))=_;rw[jf,nz]
  have:Ve i (bA G t x)=dH P (bA G t) (.extract x i):=by
   simp only[dH,Ve];cases bA G t x with
   | none=>rfl
   | some v=>cases v<;>rfl
  rw[this];rfl
 | load ty x=>
  show pY V 2009 (Fo (dE P ty) V ((oC G x).run t))=_;rw[jf,nz]
  have:Fo (dE P ty) V (bA G t x)=gG P (bA G t) V (.load ty x):=by
   simp only[gG,Fo];cases bA G t x with
   | none=>rfl
   | some v=>
    cases v<;>first | rfl | skip
    rename_i b off;show Option.rec (motive:=fun _=>Option Y) none _ (V.m.get b)=_;cases hb:V.m.get b with
    | none=>dsimp only;rw[hb]
    | some o=>
     dsimp only;rw[hb];cases o<;>first | rfl | skip
     all_goals
      show W0 (dE P ty) _ off=_;unfold W0;cases dE P ty with
      | none=>rfl
      | some q=>cases q<;>rfl
  rw[this];rfl
 | fieldAddr s x i=>
  show pY V 1024 (Wc (ow P s i) ((oC G x).run t))=_;rw[jf,nz]
  have:Wc (ow P s i) (bA G t x)=dH P (bA G t) (.fieldAddr s x i):=by
   simp only[dH,ow,qD];cases structOf P s with
   | none=>rfl
   | some fs=>
    dsimp only;cases hx:bA G t x with
    | none=>
     cases fs[i]? with
     | none=>rfl
     | some f=>dsimp only;cases P.info? f.type with
      | none=>rfl
      | some j=>dsimp only;cases Nat.beq j.size 0<;>rfl
    | some v=>
     cases hf:fs[i]? with
     | none=>cases v<;>first | rfl | (simp only[hf];rfl)
     | some f=>
      dsimp only;cases hj:P.info? f.type with
      | none=>cases v<;>first | rfl | (simp only[hf,hj];rfl)
      | some j=>
       dsimp only;cases A:Nat.beq j.size 0<;>(cases v<;>first | rfl | (simp only[hf,hj,A];rfl))
  rw[this];rfl
 | indexAddr ty x i=>
  show pY V 1026 (Wd (zh P ty) ((oC G x).run t) ((oC G i).run t))=_;rw[jf,jf,nz]
  have:Wd (zh P ty) (bA G t x) (bA G t i)=dH P (bA G t) (.indexAddr ty x i):=by
   simp only[dH,zh,qD,oT];cases hu:P.underlying ty with
   | none=>rfl
   | some d=>
    cases d<;>first | rfl | skip
    all_goals
     dsimp only;rename_i e;cases hj:P.info? e with
     | none=>
      cases bA G t x with
      | none=>rfl
      | some v=>cases v<;>first | rfl | (cases bA G t i with
       | none=>rfl
       | some u=>cases u<;>first | rfl | (rename_i k n;cases n<;>first | rfl | (simp only[hj];rfl)))
     | some j=>
      cases bA G t x with
      | none=>rfl
      | some v=>cases v<;>first | (cases bA G t i with
       | none=>rfl
       | some u=>cases u<;>first | rfl | (rename_i k n;cases n<;>first | rfl | (simp only[hj];rfl)))
  rw[this];rfl
 | call c=>
  cases hc:c.callee with
  | value f=>
   have h1:(Rx P G (.call c)).run t V=EA P G V ((oC G f).run t) (KS G c.args.toList t):=by
    show(match c.callee with
     | .value f=>(⟨fun t V=>EA P G V ((oC G f).run t) (KS G c.args.toList t)⟩:WC)
     | _=>⟨fun t V=>dM P G (bA G t) V (.call c)⟩).run t V=_
    rw[hc]
   have C:dM P G (bA G t) V (.call c)=fX P G.ov (bA G t) V (.call c):=by
    grind [dM,kindOf]
   have h3:KS G c.args.toList t=mB (bA G t) c.args.toList:=by
    unfold KS mB;congr 1;funext x;exact jf G x t
   rw[h1,C,jf,h3];simp only[fX,hc,EA];cases bA G t f with
   | none=>rfl
   | some g=>cases mB (bA G t) c.args.toList<;>rfl
  | _=>
   show(match c.callee with
     | .value f=>(⟨fun t V=>EA P G V ((oC G f).run t) (KS G c.args.toList t)⟩:WC)
     | _=>⟨fun t V=>dM P G (bA G t) V (.call c)⟩).run t V=_
   rw[hc]
 | _=>rfl
structure U5 where
 run:PT Y->Y->Nat->(PT Y->CR)->CR
structure X6 where
 run:Y->PT Y->PT Y
def MJ (j:Nat):X6:=
 bif Nat.ble j 255 then⟨fun v t=>PT.rec (motive:=fun _=>PT Y) (fun s m l=>⟨(Bb<|Nat.div j 16).run s ((Bb<|Nat.mod j 16).run ((jZ<|Nat.div j 16).run s)<|some v),m,l⟩) t⟩
 else⟨fun v t=>t.put (some v) j⟩
theorem Um (j:Nat) (v:Y) (t:PT Y):(MJ j).run v t=t.put (some v) j:=by
 unfold MJ;cases h:Nat.ble j 255 with
 | true=>
  cases t with
  | mk s m l=>exact(PT.w8 (some v) s m l ((pr j 255).1 h)).symm
 | false=>rfl
def Un (j:Nat) (v:Y) (t:PT Y):PT Y:=(MJ j).run v t
theorem RY (j:Nat) (v:Y) (t:PT Y):Un j v t=t.put (some v) j:=Um j v t
def Cn (n:Nat) (dst:Option Nat):U5:=
 match dst with
 | none=>⟨fun t _ _ k=>k t⟩
 | some j=>bif Nat.ble (Nat.succ j) n then⟨fun t v _ k=>k (Un j v t)⟩ else⟨fun _ _ e _=>.err e⟩
theorem zV (n:Nat) (dst:Option Nat) (t:PT Y) (v:Y) (e:Nat) (k:PT Y->CR):(Cn n dst).run t v e k=match dA t n dst v with | some t'=>k t' | none=>.err e:=by
 cases dst with
 | none=>rfl
 | some j=>
  show(bif Nat.ble (Nat.succ j) n then(⟨fun t v _ k=>k (Un j v t)⟩:U5) else⟨fun _ _ e _=>.err e⟩).run t v e k=_;show _=match(bif Nat.ble (Nat.succ j) n then some (t.put (some v) j) else none) with | some t'=>k t' | none=>.err e
  rw[<-RY]
  grind
structure X2 where
 run:jX->List Y->D->KR
def Xk (P:Program) (G:Cx) (ih:jX) (fn:Func) (r:CR):KR:=
 match r with
 | .ok .normal t d V=>yI P G ih fn .ret t d V
 | .ok .ret t d V=>yI P G ih fn .ret t d V
 | .ok (.kG v) t d V=>yI P G ih fn (.kG v) t d V
 | .err k=>.err k
 | _=>.err 72
def TH (P:Program) (G:Cx) (fn:Func) (c:Code) (ih:jX) (args:List Y) (V:D):KR:=
 Option.rec (motive:=fun _=>KR) (.err 73) (fun t=>Xk P G ih fn (ih c t fn.ntmps [] none V)) (qd fn.ntmps args)
def WX (P:Program) (G:Cx) (f:Nat):X2:=
 match nth P.funcs.toList f with
 | some fn=>match fn.body with
  | some c=>⟨TH P G fn c⟩
  | none=>⟨fun _ _ _=>.err 73⟩
 | none=>⟨fun _ _ _=>.err 74⟩
theorem TG (P:Program) (G:Cx) (f:Nat) (ih:jX) (args:List Y) (V:D):(WX P G f).run ih args V=nc P G ih f args V:=by
 unfold WX nc;rw[fL,aT_];cases P.funcs[f]? with
 | none=>rfl
 | some fn=>
  dsimp only;cases hb:fn.body with
  | none=>rfl
  | some c=>
   dsimp only;show TH P G fn c ih args V=_;unfold TH;cases qd fn.ntmps args with
   | none=>rfl
   | some t=>rfl
def Ey (P:Program) (G:Cx) (ih:jX) (f:Nat) (args:List Y) (V:D):KR:=
 Option.rec (motive:=fun _=>KR) (Option.rec (motive:=fun _=>KR) (Option.rec (motive:=fun _=>KR) (bif G.fk f then vU (NQ P G ih f args V) else(WX P G f).run ih args V) (fun c=>.err c)<|G.stop f args V) (fun v=>bif e6 args && (sD v && kB G.gl V G.laid) then .ret v V else .err 79)<|G.PB f args) (fun r=>.ret r.1 r.2) (G.D9 f args V)
theorem Ez (P:Program) (G:Cx) (ih:jX) (f:Nat) (args:List Y) (V:D):Ey P G ih f args V=j0 P G ih f args V:=by
 unfold Ey j0;rw[TG];cases G.D9 f args V with
 | some v=>rfl
 | none=>
 dsimp only;cases G.PB f args with
 | some v=>rfl
 | none=>
  dsimp only;cases G.stop f args V<;>rfl
structure Qy where
 run:jX->PT Y->D->(PT Y->D->CR)->CR
def Qo (k:PT Y->D->CR) (V:D) (t:PT Y):CR:=k t V
def We (pn:Bool) (c:U5) (t:PT Y) (k:PT Y->D->CR) (r:KR):CR:=
 KR.rec (motive:=fun _=>CR) (fun v V=>c.run t v 80 (Qo k V)) (fun v V=>RQ pn v t V) (fun e=>.err e) r
def Ri (P:Program) (G:Cx) (ih:jX) (pn:Bool) (c:U5) (t:PT Y) (k:PT Y->D->CR) (r:HR):CR:=
 HR.rec (motive:=fun _=>CR) (fun v V=>c.run t v 80 (Qo k V)) (fun V=>c.run t unit 80 (Qo k V)) (fun f args V=>We pn c t k (Ey P G ih f args V)) (fun l args V=>We pn c t k (kI ih l args V)) (fun v V=>RQ pn v t V) (fun e=>.err e) r
def PR (ops:Array Oper) (o:Oper) (c:U5) (t:PT Y) (V:D) (k:PT Y->D->CR) (go:CR) (w:Option Bool):CR:=
 Option.rec (motive:=fun _=>CR) (.err 85) (fun b=>bif b then go else c.run t unit 84 (Qo k V)) w
def XU (P:Program) (G:Cx) (j:Nat) (op:Op):Option Qy:=
 match op with
 | .move x=>some ⟨fun _ t V k=>Option.rec (motive:=fun _=>CR) (.err 1001) (fun v=>k ((MJ j).run v t) V) ((oC G x).run t)⟩
 | .assign x=>some ⟨fun _ t V k=>Option.rec (motive:=fun _=>CR) (.err 1002) (fun v=>k ((MJ j).run v t) V) ((oC G x).run t)⟩
 | .binOp o ty x y _=>some ⟨fun _ t V k=>Option.rec (motive:=fun _=>CR) (.err 1014) (fun v=>k ((MJ j).run v t) V) (U7 (U9 P (BS x || BS y) o ty) ((oC G x).run t) ((oC G y).run t))⟩
 | .extract x i=>some ⟨fun _ t V k=>Option.rec (motive:=fun _=>CR) (.err 1036) (fun v=>k ((MJ j).run v t) V) (Ve i ((oC G x).run t))⟩
 | .load ty x=>some ⟨fun _ t V k=>Option.rec (motive:=fun _=>CR) (.err 2009) (fun v=>k ((MJ j).run v t) V) (Fo (dE P ty) V ((oC G x).run t))⟩
 | .fieldAddr s x i=>some ⟨fun _ t V k=>Option.rec (motive:=fun _=>CR) (.err 1024) (fun v=>k ((MJ j).run v t) V) (Wc (ow P s i) ((oC G x).run t))⟩
 | .indexAddr ty x i=>some ⟨fun _ t V k=>Option.rec (motive:=fun _=>CR) (.err 1026) (fun v=>k ((MJ j).run v t) V) (Wd (zh P ty) ((oC G x).run t) ((oC G i).run t))⟩
 | _=>none
theorem Uv {pn:Bool} {n:Nat} (hj:Nat.ble (Nat.succ j) n=true) {op:Op} {c:Qy} (h:XU P G j op=some c) (ih:jX) (t:PT Y) (V:D) (k:PT Y->D->CR):
  c.run ih t V k=Ri P G ih pn (Cn n<|some j) t k ((Rx P G op).run t V):=by
 have key:∀(e:Nat) (x:Option Y),Option.rec (motive:=fun _=>CR) (.err e) (fun v=>k ((MJ j).run v t) V) x=Ri P G ih pn (Cn n<|some j) t k (pY V e x):=by
  intro e x;cases x with
  | none=>rfl
  | some v=>
   show k ((MJ j).run v t) V=(Cn n<|some j).run t v 80 (Qo k V);unfold Cn;dsimp only;rw[hj];rfl
 cases op<;>first | (cases h;done) | (cases h;exact key _ _)
def Xn (P:Program) (G:Cx) (pn:Bool) (n:Nat) (o:Oper):Qy:=
 match o.dst with
 | some j=>bif Nat.ble (Nat.succ j) n then(match XU P G j o.op with | some c=>c | none=>⟨fun ih t V k=>Ri P G ih pn (Cn n<|some j) t k ((Rx P G o.op).run t V)⟩) else⟨fun ih t V k=>Ri P G ih pn (Cn n<|some j) t k ((Rx P G o.op).run t V)⟩
 | none=>⟨fun ih t V k=>Ri P G ih pn (Cn n none) t k ((Rx P G o.op).run t V)⟩
theorem Uu (P:Program) (G:Cx) (pn:Bool) (n:Nat) (o:Oper) (ih:jX) (t:PT Y) (V:D) (k:PT Y->D->CR):(Xn P G pn n o).run ih t V k=Ri P G ih pn (Cn n o.dst) t k ((Rx P G o.op).run t V):=by
 unfold Xn;cases hd:o.dst with
 | none=>rfl
 | some j=>
  dsimp only;cases hj:Nat.ble (Nat.succ j) n with
  | false=>rfl
  | true=>
   simp only[cond_true]
   grind [Uv]
def Qs (P:Program) (G:Cx) (pn:Bool) (ops:Array Oper) (n:Nat) (o:Oper):Qy:=
 match o.guard with
 | none=>Xn P G pn n o
 | some _=>⟨fun ih t V k=>PR ops o (Cn n o.dst) t V k (Ri P G ih pn (Cn n o.dst) t k ((Rx P G o.op).run t V)) (bH ops t o)⟩
theorem NY (P:Program) (G:Cx) (ih:jX) (pn:Bool) (n:Nat) (dst:Option Nat) (t:PT Y) (k:PT Y->D->CR) (r:HR):
  Ri P G ih pn (Cn n dst) t k r=match lr P G ih r with | .ret v V'=>(match dA t n dst v with | some t'=>k t' V' | none=>.err 80) | .kG v V'=>RQ pn v t V' | .err e=>.err e:=by
 cases r with
 | val v V=>show(Cn n dst).run t v 80 (Qo k V)=_;rw[zV];rfl
 | skip V=>show(Cn n dst).run t unit 80 (Qo k V)=_;rw[zV];rfl
 | enter f args V=>
  show We pn (Cn n dst) t k (Ey P G ih f args V)=_;rw[Ez];show _=match j0 P G ih f args V with | .ret v V'=>_ | .kG v V'=>_ | .err e=>_
  cases j0 P G ih f args V with
  | ret v V'=>show(Cn n dst).run t v 80 (Qo k V')=_;rw[zV];rfl
  | kG v V'=>rfl
  | err e=>rfl
 | round l args V=>
  show We pn (Cn n dst) t k (kI ih l args V)=_;show _=match kI ih l args V with | .ret v V'=>_ | .kG v V'=>_ | .err e=>_
  cases kI ih l args V with
  | ret v V'=>show(Cn n dst).run t v 80 (Qo k V')=_;rw[zV];rfl
  | kG v V'=>rfl
  | err e=>rfl
 | kG v V=>rfl
 | err e=>rfl
theorem Ij (P:Program) (G:Cx) (pn:Bool) (ops:Array Oper) (n:Nat) (o:Oper) (ih:jX) (t:PT Y) (V:D) (k:PT Y->D->CR):(Qs P G pn ops n o).run ih t V k=iS P G ih pn ops n o t V k:=by
 unfold Qs iS;cases hg:o.guard with
 | none=>
  grind [bH,Uu,NY,OC]
 | some jw=>
  show PR ops o (Cn n o.dst) t V k (Ri P G ih pn (Cn n o.dst) t k ((Rx P G o.op).run t V)) (bH ops t o)=_;rw[NY,OC];unfold PR;cases bH ops t o with
  | none=>rfl
  | some b=>
   grind [Qo,zV]
def R1 (P:Program) (G:Cx) (ops:Array Oper) (n:Nat) (l:List Oper):Qy:=
 List.rec (motive:=fun _=>Qy) ⟨fun _ t V k=>k t V⟩ (fun o _ c=>⟨fun ih t V k=>(Qs P G true ops n o).run ih t V (fun t V=>c.run ih t V k)⟩) l
def AP (d:List DE) (t:PT Y) (V:D):CR:=.ok .normal t d V
theorem JI (P:Program) (G:Cx) (ops:Array Oper) (n:Nat) (ih:jX) (d:List DE):∀(l:List Oper) (t:PT Y) (V:D),(R1 P G ops n l).run ih t V (AP d)=uE P G ih ops n d l t V
 | [],t,V=>rfl
 | o::l,t,V=>by
  show(Qs P G true ops n o).run ih t V (fun t V=>(R1 P G ops n l).run ih t V (AP d))=iS P G ih true ops n o t V (uE P G ih ops n d l);rw[Ij];congr 1;funext t' V';exact JI P G ops n ih d l t' V'
def CO (P:Program) (G:Cx) (ops:Array Oper) (rc:List Nat) (k:PT Y->D->CR) (t:PT Y) (V:D):CR:=bif dw P G ops t V rc then k t V else .err 86
def zS (P:Program) (G:Cx) (ops:Array Oper) (n:Nat) (l:List (Nat×List Nat)):Qy:=
 List.rec (motive:=fun _=>Qy) ⟨fun _ t V k=>k t V⟩ (fun p _ c=>match nth ops.toList p.1 with
  | some o=>(match p.2 with
   | []=>⟨fun ih t V k=>(Qs P G false ops n o).run ih t V (fun t V=>c.run ih t V k)⟩
   | rc=>⟨fun ih t V k=>(Qs P G false ops n o).run ih t V (CO P G ops rc (fun t V=>c.run ih t V k))⟩)
  | none=>⟨fun _ _ _ _=>.err 87⟩) l
theorem zT (P:Program) (G:Cx) (ops:Array Oper) (n:Nat) (ih:jX) (d:List DE):∀(l:List (Nat×List Nat)) (t:PT Y) (V:D),(zS P G ops n l).run ih t V (AP d)=ki P G ih ops n d l t V
 | [],t,V=>rfl
 | (i,rc)::l,t,V=>by
  show(match nth ops.toList i with
   | some o=>(match rc with
    | []=>(⟨fun ih t V k=>(Qs P G false ops n o).run ih t V (fun t V=>(zS P G ops n l).run ih t V k)⟩:Qy)
    | rc=>⟨fun ih t V k=>(Qs P G false ops n o).run ih t V (CO P G ops rc (fun t V=>(zS P G ops n l).run ih t V k))⟩)
   | none=>⟨fun _ _ _ _=>.err 87⟩).run ih t V (AP d)=(match ops[i]? with
   | some o=>iS P G ih false ops n o t V (fun t' V'=>bif dw P G ops t' V' rc then ki P G ih ops n d l t' V' else .err 86)
   | none=>.err 87)
  rw[fL,aT_];cases ops[i]? with
  | none=>rfl
  | some o=>
   dsimp only;cases rc with
   | nil=>
    show(Qs P G false ops n o).run ih t V (fun t V=>(zS P G ops n l).run ih t V (AP d))=_;rw[Ij];congr 1;funext t' V';exact zT P G ops n ih d l t' V'
   | cons q rc=>
    show(Qs P G false ops n o).run ih t V (CO P G ops (q::rc) (fun t V=>(zS P G ops n l).run ih t V (AP d)))=_;rw[Ij];congr 1;funext t' V';unfold CO;dsimp only;rw[zT P G ops n ih d l t' V']
structure Wz where
 run:jX->PT Y->List DE->Option Pos->D->CR
def WL (P:Program) (G:Cx) (c:Code) (n:Nat):Wz:=
 match c with
 | .skip | .label _=>⟨fun _ t d _ V=>.ok .normal t d V⟩
 | .region _ ops draw=>bif draw then(bif vM P ops then⟨fun ih t d _ V=>(zS P G ops n<|lS P ops).run ih t V (AP d)⟩ else⟨fun _ _ _ _ _=>.err 88⟩)
   else(bif mJ ops.toList then⟨fun _ _ _ _ _=>.err 96⟩ else⟨fun ih t d _ V=>EZ d ((R1 P G ops n ops.toList).run ih t V<|AP d)⟩)
 | .seq a b=>⟨fun ih t d ro V=>xB (ih a t n d ro V) (fun t d V=>ih b t n d ro V)⟩
 | .cond x a b=>⟨fun ih t d ro V=>Bz ((oC G x).run t) (ih a t n d ro V) (ih b t n d ro V)⟩
 | .block id b=>⟨fun ih t d ro V=>qh id (ih b t n d ro V)⟩
 | .scope b=>⟨fun ih t d ro V=>wb (ih b t n d ro V)⟩
 | .loop b=>⟨fun ih t d ro V=>xB (ih b t n d ro V) (fun t d V=>ih (.loop b) t n d ro V)⟩
 | .exit id=>⟨fun _ t d _ V=>.ok (.exit id) t d V⟩
 | .ret=>⟨fun _ t d _ V=>.ok .ret t d V⟩
 | .rangeFunc g ps assign body=>⟨fun ih t d ro V=>qV P G ih g ps assign body t n d ro V⟩
 | _=>⟨fun _ _ _ _ _=>.err 99⟩
theorem TA (P:Program) (G:Cx) (c:Code) (n:Nat) (ih:jX) (t:PT Y) (d:List DE) (ro:Option Pos) (V:D):(WL P G c n).run ih t d ro V=JV P G ih c t n d ro V:=by
 cases c with
 | region id ops draw=>
  cases draw with
  | false=>
   show(bif mJ ops.toList then(⟨fun _ _ _ _ _=>.err 96⟩:Wz) else⟨fun ih t d _ V=>EZ d ((R1 P G ops n ops.toList).run ih t V<|AP d)⟩).run ih t d ro V=bif mJ ops.toList then .err 96 else EZ d (uE P G ih ops n d ops.toList t V)
   grind [JI]
  | true=>
   show(bif vM P ops then(⟨fun ih t d _ V=>(zS P G ops n<|lS P ops).run ih t V (AP d)⟩:Wz) else⟨fun _ _ _ _ _=>.err 88⟩).run ih t d ro V=wH P G ih ops n d t V
   grind [wH,zT]
 | cond x a b=>show Bz ((oC G x).run t) _ _=_;rw[jf];rfl
 | _=>rfl
def Uq (P:Program) (G:Cx) (fuel:Nat):jX:=Nat.rec (motive:=fun _=>jX) (fun _ _ _ _ _ _=>.err 100) (fun _ ih c t n d ro V=>(WL P G c n).run ih t d ro V) fuel
theorem JP (P:Program) (G:Cx):∀(fuel:Nat),Uq P G fuel=ed P G fuel
 | 0=>rfl
 | k+1=>by
  funext c t n d ro V;show(WL P G c n).run (Uq P G k) t d ro V=JV P G (ed P G k) c t n d ro V;rw[TA,JP P G k]
def EU (P:Program) (G:Cx) (fuel:Nat) (f:Nat) (args:List Y) (V:D):KR:=Ey P G (Uq P G fuel) f args V
theorem NH (P:Program) (G:Cx) (fuel:Nat) (f:Nat) (args:List Y) (V:D):EU P G fuel f args V=yS P G fuel f args V:=by
 unfold EU yS;rw[Ez,JP]
end Go.Ev
namespace Go.Ev
variable [Env] {G:Cx} {fuel:Nat} {P:Program} {U:Ren}
open Go.ChangeShapes Go.WideShapes Go.ChangeAt Go.RowKit
def BG (one:TypeId->DataW Unit->Option (List Value)) (P:Program):List (Nat×TypeId)->Nat->List (DataW Unit)->Option (List Value)
 | [],_,[]=>some []
 | (o,t)::l,off,d::ds=>
  match one t d,BG one P l (off+P.cellsOf t) ds with
  | some vs,some us=>if o=off/\vs.length=P.cellsOf t then some (vs++us) else none
  | _,_=>none
 | _,_,_=>none
def sE (P:Program):Nat->TypeId->DataW Unit->Option (List Value)
 | 0,_,_=>none
 | n+1,t,d=>
  match P.underlying t,d with
  | some .bool,.lit (.bool b)=>some [.bool b]
  | some (.int k),.lit (.int k' i)=>if k'=k then some [.int k i] else none
  | some (.struct fs),.agg ps=>match BG (sE P n) P (fs.toList.map fun f=>(f.offset,f.type)) 0 ps with
   | some vs=>if vs.length=P.cellsOf t then some vs else none
   | none=>none
  | some (.array m e),.agg ps=>match BG (sE P n) P ((List.range m).map fun i=>(i*P.cellsOf e,e)) 0 ps with
   | some vs=>if vs.length=P.cellsOf t then some vs else none
   | none=>none
  | _,_=>none
theorem yY {P:Program} {w:World} {base:Nat} {sp:Nat->Bool} {held:Bool} {fuel:Nat} {one:TypeId->DataW Unit->Option (List Value)} {cs:List Value}
  (ih:∀t l d p vs,DataW.trod (fun _=>()) P w base sp held fuel t l=some (d,p)->one t d=some vs->l=vs) {α:Type} (g:α->Nat×TypeId):
  ∀(l:List α) (off:Nat) (xs:List (DataW Unit×List MemPlace)) (vs:List Value),
   (l.mapM fun x=>DataW.trod (fun _=>()) P w base sp held fuel (g x).2 ((cs.drop (g x).1).take<|P.cellsOf (g x).2))=some xs->BG one P (l.map g) off (xs.map (·.1))=some vs->
   (cs.drop off).take vs.length=vs
 | [],off,xs,vs,h,hf=>by
  simp at h;subst h;simp[BG] at hf;subst hf;simp
 | x::l,off,xs,vs,h,hf=>by
  simp only[List.mapM_cons,Option.bind_eq_bind,Option.bind_eq_some_iff,Option.pure_def,oJ_] at h;obtain⟨⟨d,p⟩,h1,r,u,rfl⟩:=h;simp only[List.map_cons,BG] at hf;split at hf
  ·rename_i v1 A e1 e2;split at hf
   ·rename_i hc;obtain⟨ho,hl⟩:=hc;cases hf;have k1:=ih _ _ _ _ _ h1 e1;have k2:=yY ih g l _ r A u e2
    grind [zl_]
   cases hf
  cases hf
theorem E0 {P:Program} {w:World} {base:Nat} {sp:Nat->Bool} {held:Bool}:∀(m fuel:Nat) (t:TypeId) (cs:List Value) (d:DataW Unit) (p:List MemPlace) (vs:List Value),
  DataW.trod (fun _=>()) P w base sp held fuel t cs=some (d,p)->sE P m t d=some vs->cs=vs
 | 0,_,_,_,_,_,_,_,h=>by cases h
 | _+1,0,_,_,_,_,_,h,_=>by simp[DataW.trod] at h
 | m+1,fuel+1,t,cs,d,p,vs,h,hf=>by
  have ih:∀t l d p vs,DataW.trod (fun _=>()) P w base sp held fuel t l=some (d,p)->sE P m t d=some vs->l=vs:=fun t l d p vs=>E0 m fuel t l d p vs
  simp only[sE] at hf;split at hf
  ·rename_i hu;cases hf;unfold DataW.trod at h
   grind
  ·rename_i hu;split at hf
   ·rename_i hk;cases hf;unfold DataW.trod at h
    grind
   cases hf
  ·rename_i fs ps hu;split at hf
   ·rename_i vs' A;split at hf
    ·rename_i hl;cases hf;unfold DataW.trod at h;rw[hu] at h;dsimp only at h;split at h
     ·rename_i C;obtain⟨xs,hm,hx⟩:=oM_.1 h;have u:ps=xs.map (·.1):=by simp_all
      subst u;have:=yY (cs:=cs) ih (fun f:Field=>(f.offset,f.type)) fs.toList 0 xs vs hm A
      grind
     cases h
    cases hf
   cases hf
  ·rename_i n e ps hu;split at hf
   ·rename_i vs' A;split at hf
    ·rename_i hl;cases hf;unfold DataW.trod at h;rw[hu] at h;dsimp only at h;split at h
     ·rename_i C;obtain⟨xs,hm,hx⟩:=oM_.1 h;have u:ps=xs.map (·.1):=by simp_all
      subst u;have:=yY (cs:=cs) ih (fun i:Nat=>(i*P.cellsOf e,e)) (List.range n) 0 xs vs hm A
      grind
     cases h
    cases hf
   cases hf
  cases hf
theorem py {w:World} {l:List (String×DataW Unit)} (n:String) {d:DataW Unit} {g:Nat} {t:TypeId} {m:Nat} {vs:List Value}
  (h:laidMetH P l w) (hl:l.filter (fun x=>x.1 == n)= [(n,d)]) (hd:d.handleName? =none) (A:P.globalNamed n=some g) (F:(P.globals[g]?).map (·.type)=some t) (hf:sE P m t d=some vs):
  ∃e fr,w.heap[g]? =some (.cells vs.toArray e fr):=by
 have h1:=h.filter fun x=>x.1 == n
 rw[hl] at h1
 have G:laidMet P [(n,d)] w:=by
  grind [laidMetH]
 obtain⟨ps,⟨g',t',cs,fuel,p,q,C,E,u,I,_,_⟩,_,_⟩:=G;rw[A] at C;cases C;rw[F] at E;cases E;have k5:=E0 m fuel t cs.toList d p vs I hf;unfold World.var? at u;rw[A] at u;simp only[Option.bind_some] at u;split at u
 ·rename_i cs' e fr hh;cases u;exact⟨e,fr,by rw[hh,<-k5]⟩
 cases u
theorem yh {α β:Type} {f:α->Option β}:∀{l:List α} {r:List β},cX f l=some r->r.length=l.length/\∀(i:Nat) (v:β),r[i]? =some v->∃y,l[i]? =some y/\f y=some v
 | [],r,h=>by
  rw[il] at h;simp_all
 | x::l,r,h=>by
  obtain⟨y,r',h1,u,rfl⟩:=gJ h;obtain⟨k1,k2⟩:=yh u
  grind
theorem ll.of {w:World} {g:Nat} {cells:List Y} {vs:List Value} {e:TypeId} {fr:Nat×Nat} (hb:w.heap[g]? =some (.cells vs.toArray e fr)) (hv:cX kF vs=some cells):ll w (g,cells):=by
 obtain⟨u,k2⟩:=yh hv;refine⟨vs.toArray,e,fr,hb,by simp[u],fun i v hi=>?_⟩
 grind [pA]
def σG (gl:Nat) (l:List (Nat×List Y)) (E:Nat->TypeId):D:=⟨gl,Hw l E⟩
theorem VG_get {gl:Nat} {l:List (Nat×List Y)} {E:Nat->TypeId} {b:Nat} {o:cd} (h:(σG gl l E).m.get b=some o):∃x∈l,x.1=b/\o= .row x.2 (E x.1) true:=zu E h
def Ak (w:World) (b:Nat):Nat:=
 match w.heap[b]? with
 | some (.cells cs _ _)=>cs.size
 | _=>0
def elemAt (w:World) (b:Nat):TypeId:=
 match w.heap[b]? with
 | some (.cells _ e _)=>e
 | _=>0
def ρG (w:World) (gl:Nat):Ren:=fun b=>if b<gl then some ⟨b,0,Ak w b⟩ else none
theorem UG_some {w:World} {gl:Nat} {b:Nat} {l:Loc} (h:ρG w gl b=some l):b<gl/\l=⟨b,0,Ak w b⟩:=by
 unfold ρG at h
 simp_all
def D3 (gl:Nat) (l:List (Nat×List Y)):Bool:=l.all fun x=>Nat.blt x.1 gl && e6 x.2
theorem Vi {w:World} {gl:Nat} {l:List (Nat×List Y)} (F:MO w) (ab:gl<=w.heap.size) (A:D3 gl l=true) (hl:∀x∈l,ll w x):Inv (ρG w gl) (σG gl l<|elemAt w) w:=by
 have aa:∀x∈l,x.1<gl/\e6 x.2=true:=fun x hx=>by
  have:=aE_.1 A x hx
  simp_all
 refine⟨⟨fun b hb=>?_,fun b l' h=>?_,fun b o l' h1 u=>?_,fun b b' o o' l1 l2 h1 u h3 h4 he hne=>?_⟩,F.1,F.2,fun r _ ⟨b,o,l',h1,u,_,_⟩=>by
  obtain⟨x,_,_,rfl⟩:=VG_get h1;cases u⟩
 ·have C:¬b<gl:=Nat.not_lt.2 hb;refine⟨by unfold ρG;rw[if_neg C],?_⟩;cases h:(σG gl l<|elemAt w).m.get b with
  | none=>rfl
  | some o=>
   obtain⟨x,hx,rfl,_⟩:=VG_get h
   grind
 ·obtain⟨hb,rfl⟩:=UG_some h
  grind
 ·obtain⟨x,hx,rfl,rfl⟩:=VG_get h1;obtain⟨hb,rfl⟩:=UG_some u;obtain⟨c,e,fr,E,k2,k3⟩:=hl x hx;have I:Ak w x.1=c.size:=by unfold Ak;rw[E]
  have he:elemAt w x.1=e:=by unfold elemAt;rw[E]
  refine⟨_,E,c,fr,by rw[he],?_,?_,fun i v hv=>?_,fun h=>by cases h⟩
  ·simp[I]
  ·simp_all
  grind [oy,kW]
 obtain⟨x,hx,rfl,rfl⟩:=VG_get h1;obtain⟨y,hy,rfl,rfl⟩:=VG_get u;exact⟨Z,Z⟩
theorem iK.Rv {w w':World} {gl:Nat} {l:List (Nat×List Y)} {E:Nat->TypeId} {U':Ren} {V':D} (h:eH U (σG gl l E) w U' V' w'):iK w w':=
 ⟨h.os,h.out,h.tape,h.size,fun r u=>h.frame r u fun⟨b,o,l',h1,A,_⟩=>by
  obtain⟨x,_,_,rfl⟩:=VG_get h1;cases A⟩
def q9:KR->Bool
 | .ret (.bool true) _=>true
 | _=>false
theorem DG {r:KR} (h:q9 r=true):∃V,r= .ret (.bool true) V:=by
 unfold q9 at h
 grind
theorem GO (hm:P.follows .mixedOrders=true) (C:AG P G) {f:Nat} {w:World} (F:MO w) (u:G.gl<=w.heap.size) (A:D3 G.gl G.laid=true) (hl:∀x∈G.laid,ll w x)
  (h:∀E,q9 (EU P G fuel f [] (σG G.gl G.laid E))=true):Calls P f #[] w fun e w'=>e= .returned (.bool true)/\iK w w':=by
 have h:=h (elemAt w);rw[NH] at h;obtain⟨V,h⟩:=DG h;refine qx hm C h (Vi F u A hl) (fun g I=>⟨_,by show ρG w G.gl g=_;unfold ρG;rw[if_pos I]⟩) di.nil fun U' w' x _ st hv=>?_
 grind [VR,iK.Rv]
theorem Hv (hm:P.follows .mixedOrders=true) (C:AG P G) {f:Nat} (u:D3 G.gl G.laid=true) (h:∀E,q9 (EU P G fuel f [] (σG G.gl G.laid E))=true):IH P G.gl G.laid f [] (.bool true):=fun w xs A F hl hx=>by
 have:xs= #[]:=by
  have:=hx.dX
  simp_all
 subst this;exact(GO hm C (w:=w) F A u hl h).mono fun e w' ⟨h1,I⟩=>⟨_,h1,by simp only[VR],I⟩
end Go.Ev
namespace Go.Ev
variable [Env]
variable {ops:Array Oper} {σ₁:D} {rc:List Nat} {id:Nat} {x:Operand}
section
variable {P:Program} {G:Cx}
def Ev (P:Program) (G:Cx) (c:Code) (n:Nat) (t:PT Y) (V:D) (Q:Ex->PT Y->D->Prop):Prop:=
 ∃(K:Nat) (e:Ex) (t':PT Y) (V':D),(∀d ro k,K<=k->ed P G k c t n d ro V= .ok e t' d V')/\Q e t' V'
def aW (P:Program) (G:Cx) (f:Nat) (args:List Y) (V:D) (R:Y->D->Prop):Prop:=
 ∃(K:Nat) (v:Y) (V':D),(∀k,K<=k->j0 P G (ed P G k) f args V= .ret v V')/\R v V'
def bL (P:Program) (G:Cx) (ops:Array Oper) (n:Nat) (l:List Oper) (t:PT Y) (V:D) (Q:Ex->PT Y->D->Prop):Prop:=
 ∃(K:Nat) (e:Ex) (t':PT Y) (V':D),(∀d k,K<=k->uE P G (ed P G k) ops n d l t V= .ok e t' d V')/\Q e t' V'
def cS (P:Program) (G:Cx) (ops:Array Oper) (n:Nat) (l:List (Nat×List Nat)) (t:PT Y) (V:D) (Q:Ex->PT Y->D->Prop):Prop:=
 ∃(K:Nat) (e:Ex) (t':PT Y) (V':D),(∀d k,K<=k->ki P G (ed P G k) ops n d l t V= .ok e t' d V')/\Q e t' V'
theorem Ev.mono {c:Code} {n:Nat} {t:PT Y} {V:D} {Q Q':Ex->PT Y->D->Prop} (h:Ev P G c n t V Q) (hq:∀e t' V',Q e t' V'->Q' e t' V'):Ev P G c n t V Q':=
 let ⟨K,e,t',V',h1,u⟩:=h;⟨K,e,t',V',h1,hq _ _ _ u⟩
theorem aW.mono {f:Nat} {args:List Y} {V:D} {R R':Y->D->Prop} (h:aW P G f args V R) (hq:∀v V',R v V'->R' v V'):aW P G f args V R':=
 let ⟨K,v,V',h1,u⟩:=h;⟨K,v,V',h1,hq _ _ u⟩
section
variable {n:Nat} {t:PT Y} {V:D} {Q:Ex->PT Y->D->Prop}
theorem aH (h:Q .normal t V):Ev P G .skip n t V Q:=⟨1,.normal,t,V,fun d ro k hk=>by obtain⟨j,rfl⟩:∃j,k=j+1:=⟨k-1,by omega⟩;rfl,h⟩
theorem ET {l:Nat} (h:Q .normal t V):Ev P G (.label l) n t V Q:=⟨1,.normal,t,V,fun d ro k hk=>by obtain⟨j,rfl⟩:∃j,k=j+1:=⟨k-1,by omega⟩;rfl,h⟩
theorem bz (h:Q (.exit id) t V):Ev P G (.exit id) n t V Q:=⟨1,_,t,V,fun d ro k hk=>by obtain⟨j,rfl⟩:∃j,k=j+1:=⟨k-1,by omega⟩;rfl,h⟩
theorem aF (h:Q .ret t V):Ev P G .ret n t V Q:=⟨1,_,t,V,fun d ro k hk=>by obtain⟨j,rfl⟩:∃j,k=j+1:=⟨k-1,by omega⟩;rfl,h⟩
def dW (P:Program) (G:Cx) (n:Nat) (b:Code) (Q:Ex->PT Y->D->Prop) (e:Ex) (t:PT Y) (V:D):Prop:=
 match e with
 | .normal=>Ev P G b n t V Q
 | e=>Q e t V
theorem ai {a b:Code} (h:Ev P G a n t V (dW P G n b Q)):Ev P G (.seq a b) n t V Q:=by
 obtain⟨K,e,t',V',h1,u⟩:=h
 have step:∀d ro k,K<=k->ed P G (k+1) (.seq a b) t n d ro V=xB (.ok e t' d V') (fun t d V=>ed P G k b t n d ro V):=fun d ro k hk=>by
  show xB (ed P G k a t n d ro V) (fun t d V=>ed P G k b t n d ro V)=_;rw[h1 d ro k hk]
 cases e with
 | normal=>
  obtain⟨K2,e2,A,C,h3,E⟩:=u;refine⟨max K K2+1,e2,A,C,fun d ro k hk=>?_,E⟩;obtain⟨j,rfl⟩:∃j,k=j+1:=⟨k-1,by omega⟩;rw[step d ro j oM];exact h3 d ro j oM
 | _=>
  refine⟨K+1,_,t',V',fun d ro k hk=>?_,u⟩;obtain⟨j,rfl⟩:∃j,k=j+1:=⟨k-1,by omega⟩;rw[step d ro j oM];rfl
theorem De {a b:Code} {c:Bool} (hc:bA G t x=some (.bool c)) (h:Ev P G (if c then a else b) n t V Q):Ev P G (.cond x a b) n t V Q:=by
 obtain⟨K,e,t',V',h1,u⟩:=h;refine⟨K+1,e,t',V',fun d ro k hk=>?_,u⟩;obtain⟨j,rfl⟩:∃j,k=j+1:=⟨k-1,by omega⟩;show Bz (bA G t x) (ed P G j a t n d ro V) (ed P G j b t n d ro V)=_;rw[hc];have:=h1 d ro j oM;cases c<;>exact this
def mg (id:Nat) (Q:Ex->PT Y->D->Prop) (e:Ex) (t:PT Y) (V:D):Prop:=
 match e with
 | .exit j=>if j=id then Q .normal t V else Q (.exit j) t V
 | e=>Q e t V
theorem aK {b:Code} (h:Ev P G b n t V (mg id Q)):Ev P G (.block id b) n t V Q:=by
 obtain⟨K,e,t',V',h1,u⟩:=h
 have step:∀d ro k,K<=k->ed P G (k+1) (.block id b) t n d ro V=qh id (.ok e t' d V'):=fun d ro k hk=>by
  show qh id (ed P G k b t n d ro V)=_;rw[h1 d ro k hk]
 cases e with
 | exit q=>
  by_cases hq:q=id
  ·subst hq;refine⟨K+1,.normal,t',V',fun d ro k hk=>?_,by simpa [mg] using u⟩;obtain⟨j,rfl⟩:∃j,k=j+1:=⟨k-1,by omega⟩;rw[step d ro j oM];show(bif Nat.beq q q then _ else _)=_
   simp_all
  refine⟨K+1,.exit q,t',V',fun d ro k hk=>?_,by simpa [mg,hq] using u⟩;obtain⟨j,rfl⟩:∃j,k=j+1:=⟨k-1,by omega⟩;rw[step d ro j oM];show(bif Nat.beq q id then _ else _)=_
  grind [nB]
 | _=>
  refine⟨K+1,_,t',V',fun d ro k hk=>?_,u⟩;obtain⟨j,rfl⟩:∃j,k=j+1:=⟨k-1,by omega⟩;rw[step d ro j oM];rfl
theorem Q5 {b:Code} (I:Nat->PT Y->D->Prop) (step:∀j t V,I j t V->Ev P G b n t V (fun e t' V'=>match e with | .normal=>∃i,i<j/\I i t' V' | e=>Q e t' V')):
  ∀(j:Nat) (t:PT Y) (V:D),I j t V->Ev P G (.loop b) n t V Q:=by
 intro j;induction j using Nat.strongRecOn with
 | _ j ih=>
  intro t V C;obtain⟨K,e,t',V',h1,A⟩:=step j t V C
  have st:∀d ro k,K<=k->ed P G (k+1) (.loop b) t n d ro V=xB (.ok e t' d V') (fun t d V=>ed P G k (.loop b) t n d ro V):=fun d ro k hk=>by
   show xB (ed P G k b t n d ro V) (fun t d V=>ed P G k (.loop b) t n d ro V)=_;rw[h1 d ro k hk]
  cases e with
  | normal=>
   obtain⟨i,hi,u⟩:=A;obtain⟨K2,e2,E,F,h3,L⟩:=ih i hi t' V' u;refine⟨max K K2+1,e2,E,F,fun d ro k hk=>?_,L⟩;obtain⟨q,rfl⟩:∃q,k=q+1:=⟨k-1,by omega⟩;rw[st d ro q oM];exact h3 d ro q oM
  | _=>
   refine⟨K+1,_,t',V',fun d ro k hk=>?_,A⟩;obtain⟨q,rfl⟩:∃q,k=q+1:=⟨k-1,by omega⟩;rw[st d ro q oM];rfl
theorem af (u:mJ ops.toList=false) (h:bL P G ops n ops.toList t V Q):Ev P G (.region id ops false) n t V Q:=by
 obtain⟨K,e,t',V',h1,A⟩:=h;refine⟨K+1,e,t',V',fun d ro k hk=>?_,A⟩;obtain⟨j,rfl⟩:∃j,k=j+1:=⟨k-1,by omega⟩;show(bif mJ ops.toList then .err 96 else EZ d (uE P G (ed P G j) ops n d ops.toList t V))=_;rw[u,h1 d j oM];cases e<;>rfl
theorem yQ (hf:vM P ops=true) (h:cS P G ops n (lS P ops) t V Q):Ev P G (.region id ops true) n t V Q:=by
 obtain⟨K,e,t',V',h1,u⟩:=h;refine⟨K+1,e,t',V',fun d ro k hk=>?_,u⟩;obtain⟨j,rfl⟩:∃j,k=j+1:=⟨k-1,by omega⟩;show wH P G (ed P G j) ops n d t V=_;unfold wH
 simp_all
theorem ae (h:Q .normal t V):bL P G ops n [] t V Q:=⟨0,.normal,t,V,fun _ _ _=>Z,h⟩
theorem S {o:Oper} {l:List Oper} {v:Y} {t':PT Y} {V':D} (hw:bH ops t o=some true) (hv:dM P G (bA G t) V o.op= .val v V') (hp:dA t n o.dst v=some t') (h:bL P G ops n l t' V' Q):bL P G ops n (o::l) t V Q:=by
 obtain⟨K,e,u,A,h1,C⟩:=h;refine⟨K,e,u,A,fun d k hk=>?_,C⟩;show iS P G (ed P G k) true ops n o t V (uE P G (ed P G k) ops n d l)=_
 grind [iS,lr]
theorem iu {o:Oper} {l:List Oper} {t':PT Y} {V':D} (hw:bH ops t o=some true) (hv:dM P G (bA G t) V o.op= .skip V') (hp:dA t n o.dst unit=some t') (h:bL P G ops n l t' V' Q):bL P G ops n (o::l) t V Q:=by
 obtain⟨K,e,u,A,h1,C⟩:=h;refine⟨K,e,u,A,fun d k hk=>?_,C⟩;show iS P G (ed P G k) true ops n o t V (uE P G (ed P G k) ops n d l)=_
 grind [iS,lr]
theorem ak {o:Oper} {l:List Oper} {t':PT Y} (hw:bH ops t o=some false) (hp:dA t n o.dst unit=some t') (h:bL P G ops n l t' V Q):bL P G ops n (o::l) t V Q:=by
 obtain⟨K,e,u,A,h1,C⟩:=h;refine⟨K,e,u,A,fun d k hk=>?_,C⟩;show iS P G (ed P G k) true ops n o t V (uE P G (ed P G k) ops n d l)=_;unfold iS
 simp_all
theorem Hc {o:Oper} {l:List Oper} {f:Nat} {args:List Y} (hw:bH ops t o=some true) (hv:dM P G (bA G t) V o.op= .enter f args σ₁)
  (h:aW P G f args σ₁ fun v V'=>∃t',dA t n o.dst v=some t'/\bL P G ops n l t' V' Q):bL P G ops n (o::l) t V Q:=by
 obtain⟨K,v,V',h1,t',hp,K2,e,u,A,h3,C⟩:=h;refine⟨max K K2,e,u,A,fun d k hk=>?_,C⟩;show iS P G (ed P G k) true ops n o t V (uE P G (ed P G k) ops n d l)=_
 grind [iS,lr]
theorem a8 (h:Q .normal t V):cS P G ops n [] t V Q:=⟨0,.normal,t,V,fun _ _ _=>Z,h⟩
theorem ah {i:Nat} {o:Oper} {l:List (Nat×List Nat)} {v:Y} {t':PT Y} {V':D} (hi:ops[i]? =some o) (hw:bH ops t o=some true) (hv:dM P G (bA G t) V o.op= .val v V') (hp:dA t n o.dst v=some t') (h:cS P G ops n l t' V' Q):cS P G ops n ((i,[])::l) t V Q:=by
 obtain⟨K,e,u,A,h1,C⟩:=h;refine⟨K,e,u,A,fun d k hk=>?_,C⟩
 show(match ops[i]? with
  | some o=>iS P G (ed P G k) false ops n o t V (fun t' V'=>bif dw P G ops t' V' [] then ki P G (ed P G k) ops n d l t' V' else .err 86)
  | none=>.err 87)=_
 rw[hi];unfold iS;dsimp only;rw[hw];dsimp only;rw[hv];dsimp only[lr];rw[hp];exact h1 d k hk
theorem au {i:Nat} {o:Oper} {l:List (Nat×List Nat)} {t':PT Y} (hi:ops[i]? =some o) (hw:bH ops t o=some false) (hp:dA t n o.dst unit=some t') (h:cS P G ops n l t' V Q):cS P G ops n ((i,[])::l) t V Q:=by
 obtain⟨K,e,u,A,h1,C⟩:=h;refine⟨K,e,u,A,fun d k hk=>?_,C⟩
 show(match ops[i]? with
  | some o=>iS P G (ed P G k) false ops n o t V (fun t' V'=>bif dw P G ops t' V' [] then ki P G (ed P G k) ops n d l t' V' else .err 86)
  | none=>.err 87)=_
 rw[hi];unfold iS;dsimp only;rw[hw];dsimp only;rw[hp];exact h1 d k hk
theorem EP {i:Nat} {o:Oper} {l:List (Nat×List Nat)} {f:Nat} {args:List Y} (hi:ops[i]? =some o) (hw:bH ops t o=some true) (hv:dM P G (bA G t) V o.op= .enter f args σ₁)
  (h:aW P G f args σ₁ fun v V'=>∃t',dA t n o.dst v=some t'/\dw P G ops t' V' rc=true/\cS P G ops n l t' V' Q):cS P G ops n ((i,rc)::l) t V Q:=by
 obtain⟨K,v,V',h1,t',hp,hs,K2,e,u,A,h3,C⟩:=h;refine⟨max K K2,e,u,A,fun d k hk=>?_,C⟩
 show(match ops[i]? with
  | some o=>iS P G (ed P G k) false ops n o t V (fun t' V'=>bif dw P G ops t' V' rc then ki P G (ed P G k) ops n d l t' V' else .err 86)
  | none=>.err 87)=_
 grind [iS,lr]
end
theorem Q4 {f:Nat} {fn:Func} {c:Code} {args:List Y} {V:D} {R:Y->D->Prop} {t:PT Y} (A:G.D9 f args V=none) (C:G.PB f args=none) (u:G.stop f args V=none) (E:G.fk f=false)
  (hf:P.funcs[f]? =some fn) (hb:fn.body=some c) (F:qd fn.ntmps args=some t)
  (h:Ev P G c fn.ntmps t V fun e t' V'=>(e= .normal∨e= .ret)/\∃v,ec P fn t' V'=some v/\R v V'):aW P G f args V R:=by
 obtain⟨K,e,t',V',h1,he,v,h2,h3⟩:=h;refine⟨K,v,V',fun k hk=>?_,h3⟩;unfold j0;rw[A];dsimp only;rw[C];dsimp only;rw[u];dsimp only;rw[E];simp only[cond_false];unfold nc;rw[hf];dsimp only;rw[hb,F];dsimp only;rw[h1 [] none k hk];rcases he with rfl | rfl<;>
 ·dsimp only;unfold yI;rw[show qG P G (ed P G k) [] .ret V'=some (.ret,V') from Z]
  simp_all
theorem Nz {f:Nat} {args:List Y} {V:D} {R:Y->D->Prop} {v:Y} (aa:G.D9 f args V=none) (ab:G.PB f args=some v) (h1:e6 args=true) (h2:sD v=true) (h3:kB G.gl V G.laid=true) (h:R v V):aW P G f args V R:=by
 refine⟨0,v,V,fun k _=>?_,h⟩
 grind [j0]
end
variable {V:D} {cap fuel:Nat} {U:Ren}
def rj (P:Program):List Field->Nat->Option Nat
  | [],off=>some off
  | f::r,off=>if f.offset=off then rj P r (off+P.cellsOf f.type) else none
def eG {H_:Type} (P:Program) (V:D):Nat->TypeId->DataW H_->List Y->Prop
  | 0,_,_,_=>False
  | fuel+1,t,d,vs=>
    match P.underlying t,d with
    | some .bool,.lit (.bool b)=>vs= [.bool b]
    | some (.int k),.lit (.int k' n)=>k'=k/\(Lit.int k n).wf=true/\vs= [.int k n]
    | some .string,.lit (.string s)=>s.length<=maxLen/\vs= [.str<|s.map UInt8.toNat]
    | some (.slice _),.nil=>vs= [.aw]
    | some (.slice e),.slice elems spare=>1<=P.cellsOf e->∃(b:Nat) (c:oY) (cells:List Y) (e':Nat),vs= [.slice b 0 elems.length c]/\elems.length<=maxLen/\V.m.get b=some (.row cells e' true)/\
        (c= .known (elems.length+spare.length)∨c= .upto (P.cellsOf e))/\cells.length=elems.length*P.cellsOf e/\
        ∀(i:Nat) (x:DataW H_),elems[i]? =some x->eG P V fuel e x ((cells.drop (i*P.cellsOf e)).take<|P.cellsOf e)
    | some (.struct fs),.agg parts=>rj P fs.toList 0=some (P.cellsOf t)->parts.length=fs.size/\vs.length=P.cellsOf t/\
        ∀(i:Nat) (f:Field) (x:DataW H_),fs[i]? =some f->parts[i]? =some x->eG P V fuel f.type x ((vs.drop f.offset).take<|P.cellsOf f.type)
    | some (.array n e),.agg parts=>P.cellsOf t=n*P.cellsOf e->parts.length=n/\vs.length=P.cellsOf t/\
        ∀(i:Nat) (x:DataW H_),parts[i]? =some x->eG P V fuel e x ((vs.drop (i*P.cellsOf e)).take<|P.cellsOf e)
    | _,_=>True
theorem eG.mono {H_:Type} {P:Program} {V V':D} (he:∀(b:Pos) (o:cd),V.m.get b=some o->V'.m.get b=some o):∀(fuel:Nat) (t:TypeId) (d:DataW H_) (vs:List Y),eG P V fuel t d vs->eG P V' fuel t d vs
  | 0,_,_,_,h=>h
  | fuel+1,t,d,vs,h=>by
    unfold eG at h⊢;split at h
    · exact h
    · exact h
    · exact h
    · exact h
    · intro h1
      obtain⟨b,c,cells,e',u,A,C,E,F,G⟩:=h h1;exact⟨b,c,cells,e',u,A,he _ _ C,E,F,fun i x hx=>eG.mono he fuel _ _ _ (G i x hx)⟩
    · intro h1
      obtain⟨u,A,C⟩:=h h1;exact⟨u,A,fun i f x hf hx=>eG.mono he fuel _ _ _ (C i f x hf hx)⟩
    · intro h1
      obtain⟨u,A,C⟩:=h h1;exact⟨u,A,fun i x hx=>eG.mono he fuel _ _ _ (C i x hx)⟩
    · trivial
theorem di.flatten {U:Ren}:∀{vss:List (List Y)} {css:List (List Value)},vss.length=css.length->(∀(i:Nat) (vs:List Y) (cs:List Value),vss[i]? =some vs->css[i]? =some cs->di U vs cs)->di U vss.flatten css.flatten
  | [],[],_,_=>di.nil
  | [],_::_,h,_=>by simp at h
  | _::_,[],h,_=>by simp at h
  | vs::vss,cs::css,h,hh=>by
    rw[List.flatten_cons,List.flatten_cons];exact(hh 0 vs cs Z Z).append (di.flatten (by simpa using h) fun i a b u hb=>hh (i+1) a b (by simpa using u) (by simpa using hb))
theorem nK {α:Type} {m:Nat}:∀{l:List (List α)} {i:Nat} {x:List α},(∀y∈l,y.length=m)->l[i]? =some x->(l.flatten.drop (i*m)).take m=x
  | [],i,x,_,h=>by simp at h
  | y::l,0,x,hm,h=>by
    simp at h;subst h;have hy:=hm y (by simp);simp[<-hy]
  | y::l,i+1,x,hm,h=>by
    have hy:=hm y (by simp);simp only[List.getElem?_cons_succ] at h;rw[List.flatten_cons,show(i+1)*m=y.length+i*m by rw[hy,Nat.succ_mul,Nat.add_comm],List.drop_append,List.drop_eq_nil_of_le oM,List.nil_append,Nat.add_sub_cancel_left];exact nK (fun z u=>hm z (by simp[u])) h
theorem qB {α:Type} {m:Nat}:∀{l:List (List α)},(∀y∈l,y.length=m)->l.flatten.length=l.length*m
  | [],_=>by simp
  | y::l,hm=>by
    rw[List.flatten_cons,lA_,hm y (by simp),qB fun z u=>hm z (by simp[u]),zc_,Nat.succ_mul,Nat.add_comm]
theorem nY {α:Type} {P:Program}:∀{fs:List Field} {off fin:Nat} {cs:List α},rj P fs off=some fin->fin<=cs.length->(fs.map fun f=>(cs.drop f.offset).take (P.cellsOf f.type)).flatten=(cs.drop off).take (fin-off)/\off<=fin
  | [],off,fin,cs,h,_=>by simp only[rj,oJ_] at h;subst h;simp
  | f::fs,off,fin,cs,h,hl=>by
    simp only[rj] at h;split at h
    · rename_i u
      obtain⟨h1,h2⟩:=nY h hl;refine⟨?_,by omega⟩;rw[List.map_cons,List.flatten_cons,h1,u];rw[show fin-off=P.cellsOf f.type+(fin-(off+P.cellsOf f.type)) by omega,List.take_add,zl_]
    · cases h
theorem xe {α:Type} {P:Program}:∀{fs:List Field} {vss:List (List α)} {off fin:Nat},rj P fs off=some fin->(∀(i:Nat) (f:Field) (vs:List α),fs[i]? =some f->vss[i]? =some vs->vs.length=P.cellsOf f.type)->vss.length=fs.length->
    ∀{i:Nat} {f:Field} {vs:List α},fs[i]? =some f->vss[i]? =some vs->off<=f.offset/\(vss.flatten.drop (f.offset-off)).take (P.cellsOf f.type)=vs
  | [],vss,off,fin,h,hl,hn,i,f,vs,hf,hv=>by simp at hf
  | g::fs,[],off,fin,h,hl,hn,i,f,vs,hf,hv=>by simp at hv
  | g::fs,w::vss,off,fin,h,hl,hn,i,f,vs,hf,hv=>by
    simp only[rj] at h;split at h
    · rename_i ho
      have hw:=hl 0 g w Z Z;cases i with
      | zero=>
        simp_all
      | succ i=>
        simp only[List.getElem?_cons_succ] at hf hv;obtain⟨h1,h2⟩:=xe h (fun i f vs a b=>hl (i+1) f vs (by simpa using a) (by simpa using b)) (by simpa using hn) hf hv
        grind [List.drop_append,List.drop_eq_nil_of_le]
    · cases h
def lC (V:D):Prop:=∀b o,V.m.get b=some o->o.ro=true
structure Lay (U:Ren) (V:D) (U':Ren) (V':D):Prop where
  le:U.le U'
  get:∀(b:Pos) (o:cd),V.m.get b=some o->V'.m.get b=some o
theorem Lay.refl (U:Ren) (V:D):Lay U V U V:=⟨Ren.le_refl U,fun _ _ h=>h⟩
theorem Lay.trans {U ρ₁ ρ₂:Ren} {V σ₁ σ₂:D} (h:Lay U V ρ₁ σ₁) (h':Lay ρ₁ σ₁ ρ₂ σ₂):Lay U V ρ₂ σ₂:=⟨Ren.le_trans h.le h'.le,fun b o hb=>h'.get b o (h.get b o hb)⟩
theorem Inv.S0 {w:World} (hi:Inv U V w) (L:lC V) {l:Loc} {o:cd} {x:Obj} (hx:w.heap[l.de]? =some x) (M:gz U l o x) (aa:o.ro=true):
    Inv (U.with V.next l) (V.alloc o) w/\lC (V.alloc o)/\Lay U V (U.with V.next l) (V.alloc o):=by
  have hle:=hi.xY l;have I:l.de<w.heap.size:=(aS_.1 hx).1;have C:∀b l',b≠V.next->(U.with V.next l) b=some l'->U b=some l':=fun b l' hb h=>by rwa[Ren.ej U l hb] at h
  have A:∀b,b≠V.next->(V.alloc o).m.get b=V.m.get b:=fun b hb=>PT.dD _ _ _ _ hb
  have E:(V.alloc o).m.get V.next=some o:=PT.dR _ _ _
  have u:lC (V.alloc o):=fun b q hb=>by
    by_cases e:b=V.next
    · simp_all
    · rw[A b e] at hb;exact L b q hb
  refine⟨⟨⟨fun b hb=>?_,fun b l' hb=>?_,fun b o' l' hb F=>?_,fun b b' o₁ o₂ l₁ l₂ h1 G _ _ _ _=>⟨u b o₁ h1,u b' o₂ G⟩⟩,hi.oW.size,hi.oW.same,fun r _ ⟨b,o,l,h1,G,_,_⟩=>by rw[u b o h1] at G;cases G⟩,u,hle,fun b q hb=>?_⟩
  · have ab:V.next.num+1<=b.num:=by simpa [D.alloc,Pos.iR] using hb
    have hne:b≠V.next:=fun e=>by subst e;omega
    rw[Ren.ej U l hne,A b hne];exact hi.fresh b oM
  · by_cases hne:b=V.next
    · subst hne;rw[Ren.cU] at hb;cases hb;exact I
    · exact hi.de b l'<|C b l' hne hb
  · by_cases hne:b=V.next
    · subst hne
      rw[Ren.cU] at F;rw[E] at hb;cases hb;cases F;exact⟨x,hx,M.mono hle⟩
    · rw[A b hne] at hb
      obtain⟨y,hy,K⟩:=hi.obj b o' l' hb (C b l' hne F);exact⟨y,hy,K.mono hle⟩
  · have hne:b≠V.next:=fun e=>by subst e;rw[(hi.fresh _<|nR_ _).2] at hb;cases hb
    simp_all
section
variable {H_:Type} {enc:TypeId×Value->H_} {P:Program} {w:World}
def MM (enc:TypeId×Value->H_) (P:Program) (w:World) (fuel:Nat) (t:TypeId) (cs:List Value) (d:DataW H_):Prop:=
  ∀(U:Ren) (V:D),Inv U V w->lC V->∃(U':Ren) (V':D) (vs:List Y),Inv U' V' w/\lC V'/\Lay U V U' V'/\eG P V' fuel t d vs/\di U' vs cs
theorem U6 {U:Ren}:∀(cs:List Value),di U (cs.map fun _=>Y.any) cs
  | []=>di.nil
  | _::cs=>di.cons (by simp only[VR]) (U6 cs)
theorem rO {fuel:Nat} (ih:∀t cs d p,DataW.trod enc P w 0 (fun _=>true) true fuel t cs=some (d,p)->MM enc P w fuel t cs d):
    ∀(l:List (TypeId×List Value)) (xs:List (DataW H_×List MemPlace)),(l.mapM fun q=>DataW.trod enc P w 0 (fun _=>true) true fuel q.1 q.2)=some xs->∀(U:Ren) (V:D),Inv U V w->lC V->
      ∃(U':Ren) (V':D) (vss:List (List Y)),Inv U' V' w/\lC V'/\Lay U V U' V'/\vss.length=l.length/\xs.length=l.length/\∀(i:Nat) (q:TypeId×List Value) (x:DataW H_×List MemPlace) (vs:List Y),l[i]? =some q->xs[i]? =some x->vss[i]? =some vs->eG P V' fuel q.1 x.1 vs/\di U' vs q.2
  | [],xs,h,U,V,hi,u=>by
    simp at h;subst h;exact⟨U,V,[],hi,u,Lay.refl _ _,Z,Z,fun i q x vs hq=>by simp at hq⟩
  | q::l,xs,h,U,V,hi,u=>by
    simp only[List.mapM_cons,Option.bind_eq_bind,Option.bind_eq_some_iff,Option.pure_def,oJ_] at h;obtain⟨⟨d,p⟩,h1,r,A,rfl⟩:=h;obtain⟨ρ₁,σ₁,vs,C,E,l1,F,G⟩:=ih _ _ _ _ h1 U V hi u;obtain⟨ρ₂,σ₂,vss,I,K,l2,L,M,hh⟩:=rO ih l r A ρ₁ σ₁ C E;refine⟨ρ₂,σ₂,vs::vss,I,K,l1.trans l2,by simp[L],by simp[M],fun i q' x vs' hq hx hv=>?_⟩;cases i with
    | zero=>
      simp at hq hx hv;subst hq;subst hx;subst hv;exact⟨eG.mono l2.get _ _ _ _ F,di.mono l2.le _ _ G⟩
    | succ i=>grind
theorem mL {α β:Type} {f:α->Option β}:∀{l:List α} {ys:List β},l.mapM f=some ys->ys.length=l.length/\∀(i:Nat) (y:β),ys[i]? =some y->∃x,l[i]? =some x/\f x=some y
  | [],ys,h=>by simp_all
  | x::l,ys,h=>by
    simp only[List.mapM_cons,Option.bind_eq_bind,Option.bind_eq_some_iff,Option.pure_def,oJ_] at h;obtain⟨y,h1,r,u,rfl⟩:=h;obtain⟨k1,k2⟩:=mL u
    grind
theorem vP {α β γ:Type} {f:α->Option β} {g:β->Option γ}:∀{l:List α} {xs:List γ},(l.mapM fun a=>(f a).bind g)=some xs->∃ys,l.mapM f=some ys/\ys.mapM g=some xs
  | [],xs,h=>by simp_all
  | a::l,xs,h=>by
    simp only[List.mapM_cons,Option.bind_eq_bind,Option.bind_eq_some_iff,Option.pure_def,oJ_] at h;obtain⟨x,⟨b,h1,h2⟩,r,h3,rfl⟩:=h;obtain⟨ys,k1,k2⟩:=vP h3
    simp_all
theorem mapM_map {α β γ:Type} {f:α->β} {g:β->Option γ}:∀(l:List α),(l.map f).mapM g=l.mapM fun a=>g (f a)
  | []=>rfl
  | a::l=>by simp only[List.map_cons,List.mapM_cons,mapM_map l]
theorem chunks_flatten {α:Type} {m:Nat} (L:List α):∀(n:Nat),((List.range n).map fun k=>(L.drop (k*m)).take m).flatten=L.take (n*m)
  | 0=>by simp
  | n+1=>by
    rw[List.range_succ,List.map_append,List.flatten_append,chunks_flatten L n];simp only[List.map_cons,List.map_nil,List.flatten_cons,List.flatten_nil,zk_];rw[Nat.succ_mul,List.take_add]
theorem yu {a:Addr} {n:Nat} {cs:List Value} (h:w.cells? 0 a n=some cs) (hn:1<=n):∃(c:Array Value) (e:TypeId) (fr:Nat×Nat),w.heap[a.block]? =some (Obj.cells c e fr)/\a.spot=none/\a.off+n<=c.size/\cs=(c.toList.drop a.off).take n:=by
  unfold World.cells? at h;rw[if_pos<|Nat.zero_le _] at h;obtain⟨E,F⟩:=mL h;have E:cs.length=n:=by simpa using E
  have h0:∃(c:Array Value) (e:TypeId) (fr:Nat×Nat),w.heap[a.block]? =some (Obj.cells c e fr)/\a.spot=none:=by
    have u:0<cs.length:=by omega
    obtain⟨x,hx,hc⟩:=F 0 cs[0] (gC u)
    have:x=0:=by
      grind
    subst this;have G:a.add 0=a:=by simp[Addr.add]
    rw[G] at hc;unfold World.cell? at hc;split at hc
    · simp_all
    · cases hc
  obtain⟨c,e,fr,hh,I⟩:=h0
  have A:∀i y,cs[i]? =some y->c[a.off+i]? =some y:=fun i y hy=>by
    grind [Addr.add_eq,cell?_of_heap]
  have C:a.off+n<=c.size:=by
    have u:n-1<cs.length:=by omega
    have:=A (n-1) cs[n-1] (gC u)
    grind
  refine⟨c,e,fr,hh,I,C,?_⟩;apply zf_
  grind
theorem F9 {P:Program}:∀{fs:List Field} {off fin:Nat},rj P fs off=some fin->∀f∈fs,f.offset+P.cellsOf f.type<=fin
  | [],off,fin,h,f,hf=>by cases hf
  | g::fs,off,fin,h,f,hf=>by
    simp only[rj] at h;split at h
    · rename_i ho
      rcases mQ_.1 hf with rfl | hf
      · have:=(nY (P:=P) (cs:=List.replicate fin ()) h (by simp)).2
        omega
      · exact F9 h f hf
    · cases h
theorem Ob (hw:∃(r:Nat) (c:Array Value) (e:TypeId) (fr:Nat×Nat),w.heap[r]? =some (Obj.cells c e fr)) (ih:∀t cs d p,DataW.trod enc P w 0 (fun _=>true) true fuel t cs=some (d,p)->MM enc P w fuel t cs d) {t e:TypeId} {a:Addr} {len:Nat} {d:DataW H_} {p:List MemPlace} (hu:P.underlying t=some (.slice e))
    (h:(if 0<=a.block/\len<=cap/\cap<=maxLen then
        ((List.range len).mapM fun i=>(w.cells? 0 (a.add (i*P.cellsOf e))<|P.cellsOf e).bind (DataW.trod enc P w 0 (fun _=>true) true fuel e)).bind fun elems=>
          (if(fun _=>true) a.block=true then(List.range (cap-len)).mapM fun j=>(w.cells? 0 (a.add ((len+j)*P.cellsOf e))<|P.cellsOf e).bind (DataW.trod enc P w 0 (fun _=>true) true fuel e) else some []).map fun rest=>
            (DataW.slice (elems.map (·.1))<|rest.map (·.1),MemPlace.row a ((elems.length+rest.length)*P.cellsOf e)++(elems++rest).flatMap (·.2))
      else none)=some (d,p)) (hi:Inv U V w) (hr:lC V):
    ∃(U':Ren) (V':D) (vs:List Y),Inv U' V' w/\lC V'/\Lay U V U' V'/\eG P V' (fuel+1) t d vs/\di U' vs [Value.slice (some a) len cap]:=by
  split at h
  · rename_i hc
    obtain⟨_,a2,a3⟩:=hc;obtain⟨elems,hE,h⟩:=Option.bind_eq_some_iff.1 h;obtain⟨rest,hR,h⟩:=oM_.1 h;rw[if_pos Z] at hR;have hd:d= .slice (elems.map (·.1)) (rest.map (·.1)):=by have:=congrArg Prod.fst h;simpa using this.symm
    subst hd;have A:elems.length=len:=by have:=(mL hE).1;simpa using this
    have am:rest.length=cap-len:=by have:=(mL hR).1;simpa using this
    by_cases M:1<=P.cellsOf e
    · obtain⟨css,ap,hex⟩:=vP hE
      obtain⟨kcs,L⟩:=mL ap;have kcs:css.length=len:=by simpa using kcs
      have T:∀k,(a.add k).block=a.block/\(a.add k).off=a.off+k:=fun k=>by
        unfold Addr.add;split
        · rename_i h0;subst h0;exact⟨Z,Z⟩
        · exact⟨Z,Z⟩
      have F:a.add 0=a:=by simp[Addr.add]
      by_cases h0:len=0/\cap=0
      · obtain⟨rfl,rfl⟩:=h0
        obtain⟨r,c,e',fr,hh⟩:=hw;have G:gz U ⟨r,0,c.size⟩ (.row [] e' true) (.cells c e' fr):=⟨c,fr,Z,by simp,by simp,fun i v hv=>by simp at hv,fun h=>by cases h⟩;obtain⟨i1,r1,l1⟩:=hi.S0 hr hh G Z;refine⟨_,_,[.slice V.next 0 0 (.upto<|P.cellsOf e)],i1,r1,l1,?_,di.cons ?_ di.nil⟩
        · unfold eG
          rw[hu];dsimp only;intro _;have aq:elems= []:=eN_ A;subst aq;exact⟨V.next,_,[],e',Z,by simp,PT.dR _ _ _,.inr Z,by simp,fun i x hx=>by simp at hx⟩
        · simp only[VR]
          refine⟨_,Ren.cU _ _ _,.inr ?_⟩;simp
      · have hblk:∃(c:Array Value) (e':TypeId) (fr:Nat×Nat),w.heap[a.block]? =some (Obj.cells c e' fr)/\a.spot=none/\a.off<=c.size:=by
          have go:∀cs:List Value,w.cells? 0 a (P.cellsOf e)=some cs->∃(c:Array Value) (e':TypeId) (fr:Nat×Nat),w.heap[a.block]? =some (Obj.cells c e' fr)/\a.spot=none/\a.off<=c.size:=fun cs hk=>by
            obtain⟨c,e',fr,h1,h2,h3,_⟩:=yu hk M;exact⟨c,e',fr,h1,h2,by omega⟩
          by_cases hl:len=0
          · subst hl
            obtain⟨dss,ax,_⟩:=vP hR;obtain⟨k1,k2⟩:=mL ax;have k1:dss.length=cap-0:=by simpa using k1
            have u:0<dss.length:=by omega
            obtain⟨x,I,hx⟩:=k2 0 dss[0] (gC u);have:x=0:=by rw[zr_ oM] at I;exact(zs_ I).symm
            subst this;rw[nA_,Nat.zero_mul,F] at hx;exact go _ hx
          · have u:0<css.length:=by omega
            obtain⟨x,I,hx⟩:=L 0 css[0] (gC u);have:x=0:=by rw[zr_ oM] at I;exact(zs_ I).symm
            subst this;rw[Nat.zero_mul,F] at hx;exact go _ hx
        obtain⟨c,e',fr,hh,K,ar⟩:=hblk
        have N:∀(i:Nat) (y:List Value),css[i]? =some y->a.off+(i+1)*P.cellsOf e<=c.size/\y=((c.toList.drop a.off).drop (i*P.cellsOf e)).take (P.cellsOf e):=fun i y hy=>by
          obtain⟨x,hx,aE⟩:=L i y hy;have E:i<len:=by rw[<-kcs];exact(gA.1 hy).1
          have:x=i:=by rw[zr_ E] at hx;exact(zs_ hx).symm
          subst this;obtain⟨c2,e2,a4,h1,h2,h3,h4⟩:=yu aE M;obtain⟨q1,q3⟩:=T (x*P.cellsOf e);rw[q1,hh] at h1;cases h1;rw[q3] at h3 h4;exact⟨by rw[Nat.succ_mul];omega,by rw[h4,zl_]⟩
        have a0:a.off+len*P.cellsOf e<=c.size:=by
          by_cases hl:len=0
          · subst hl;omega
          · have u:len-1<css.length:=by omega
            have:=(N (len-1) css[len-1]<|gC u).1;rwa[show len-1+1=len by omega] at this
        have W:∀(i:Nat) (y:List Value),css[i]? =some y->y.length=P.cellsOf e:=fun i y hy=>by
          obtain⟨k1,k2⟩:=N i y hy;rw[k2,lT_,lD_,lD_,Array.length_toList];rw[Nat.succ_mul] at k1;omega
        have Q:css=(List.range len).map fun k=>((c.toList.drop a.off).drop (k*P.cellsOf e)).take (P.cellsOf e):=by
          apply zf_;intro i;rw[gM_]
          by_cases E:i<len
          · rw[zr_ E]
            have u:i<css.length:=by omega
            rw[gC u];exact congrArg some (N i css[i]<|gC u).2
          · rw[gN_ oM,gN_ (by simp;omega)];rfl
        obtain⟨ρ₁,σ₁,vss,i1,r1,l1,n1,n2,R⟩:=rO ih (css.map fun cs=>(e,cs)) elems (by rw[mapM_map];exact hex) U V hi hr;have n1:vss.length=css.length:=by simpa using n1
        have hV:di ρ₁ vss.flatten css.flatten:=di.flatten n1 fun i vs cs hv X=>by
          have u:i<elems.length:=by rw[A,<-kcs];exact(gA.1 X).1
          exact(R i (e,cs) elems[i] vs (by rw[gM_,X];rfl) (gC u) hv).2
        have aa:∀vs∈vss,vs.length=P.cellsOf e:=fun vs hv=>by
          obtain⟨i,E,rfl⟩:=List.getElem_of_mem hv;have u:i<css.length:=by omega
          have C:i<elems.length:=by omega
          have:=(R i (e,css[i]) elems[i] vss[i] (by rw[gM_,gC u];rfl) (gC C)<|gC E).2.length;rw[<-this];exact W i _<|gC u
        have ac:vss.flatten.length=len*P.cellsOf e:=by rw[qB aa,n1,kcs]
        rw[Q,chunks_flatten] at hV
        have G:gz ρ₁ ⟨a.block,a.off,c.size-a.off⟩ (.row vss.flatten e' true) (.cells c e' fr):=by
          refine⟨c,fr,Z,by show c.size=a.off+(c.size-a.off);omega,by rw[ac];show _<=c.size-a.off;omega,fun i v hv=>?_,fun h=>by cases h⟩;obtain⟨y,hy,a1⟩:=hV.get hv;rw[List.getElem?_take] at hy;split at hy
          · rw[List.getElem?_drop,aT_] at hy
            exact⟨y,hy,a1⟩
          · cases hy
        obtain⟨i2,r2,l2⟩:=i1.S0 r1 hh G Z;refine⟨_,_,[.slice σ₁.next 0 len (.known cap)],i2,r2,l1.trans l2,?_,di.cons ?_ di.nil⟩
        · unfold eG
          rw[hu];dsimp only;intro _;refine⟨σ₁.next,_,vss.flatten,e',by rw[lM_,A],by rw[lM_,A];omega,PT.dR _ _ _,.inl (by rw[lM_,lM_,A,am];congr 1;omega),by rw[ac,lM_,A],fun i x hx=>?_⟩;rw[gM_] at hx;cases hy:elems[i]? with
          | none=>rw[hy] at hx;cases hx
          | some y=>
            rw[hy] at hx;cases hx;have E:i<len:=by rw[<-A];exact(gA.1 hy).1
            have u:i<css.length:=by omega
            have C:i<vss.length:=by omega
            rw[nK aa<|gC C];exact eG.mono l2.get _ _ _ _ (R i (e,css[i]) y vss[i] (by rw[gM_,gC u];rfl) hy<|gC C).1
        · simp only[VR]
          refine⟨_,Ren.cU _ _ _,?_⟩;obtain⟨ab,ao,asg⟩:=a;dsimp only at K⊢;subst K;rfl
    · refine⟨U,V,[.any],hi,hr,Lay.refl _ _,?_,di.cons (by simp only[VR]) di.nil⟩
      unfold eG;rw[hu];exact fun h'=>absurd h' M
  · cases h
theorem lay (hw:∃(r:Nat) (c:Array Value) (e:TypeId) (fr:Nat×Nat),w.heap[r]? =some (Obj.cells c e fr)):∀(fuel:Nat) (t:TypeId) (cs:List Value) (d:DataW H_) (p:List MemPlace),DataW.trod enc P w 0 (fun _=>true) true fuel t cs=some (d,p)->MM enc P w fuel t cs d
  | 0,t,cs,d,p,h=>by simp[DataW.trod] at h
  | fuel+1,t,cs,d,p,h=>by
    intro U V hi Q;have ih:=lay hw fuel
    have other:(∀vs:List Y,eG P V (fuel+1) t d vs)->∃(U':Ren) (V':D) (vs:List Y),Inv U' V' w/\lC V'/\Lay U V U' V'/\eG P V' (fuel+1) t d vs/\di U' vs cs:=fun K=>
      ⟨U,V,_,hi,Q,Lay.refl _ _,K _,U6 cs⟩
    have one:∀{v:Y} {x:Value},cs= [x]->(∀U:Ren,VR U v x)->eG P V (fuel+1) t d [v]->∃(U':Ren) (V':D) (vs:List Y),Inv U' V' w/\lC V'/\Lay U V U' V'/\eG P V' (fuel+1) t d vs/\di U' vs cs:=fun {v x} hc hv K=>by
      subst hc;exact⟨U,V,[v],hi,Q,Lay.refl _ _,K,di.cons (hv U) di.nil⟩
    cases hu:P.underlying t with
    | none=>exact other fun vs=>by unfold eG;rw[hu];trivial
    | some u=>
      unfold DataW.trod at h;rw[hu] at h;cases u with
      | bool=>
        split at h<;>first | (rename_i he;cases he;done) | skip
        all_goals first
          | (rename_i b he
             cases h;exact one (v:=.bool b) Z (fun U=>by simp only[VR]) (by unfold eG;rw[hu]))
          | cases h
      | int k=>
        split at h<;>first | (rename_i he;cases he;done) | skip
        all_goals first
          | (rename_i W R n he
             cases he;split at h
             · rename_i hk
               obtain⟨X,aa⟩:=hk;subst X;cases h;exact one (v:=.int R n) Z (fun U=>by simp only[VR]) (by unfold eG;rw[hu];exact⟨Z,aa,Z⟩)
             · cases h)
          | cases h
      | string=>
        split at h<;>first | (rename_i he;cases he;done) | skip
        all_goals first
          | (rename_i s he
             split at h
             · rename_i hk
               cases h;exact one (v:=.str<|s.data.toList.map UInt8.toNat) Z (fun U=>by simp only[VR];exact⟨s,Z,Z⟩) (by unfold eG;rw[hu];exact⟨by simpa using hk,Z⟩)
             · cases h)
          | cases h
      | struct fs=>
        dsimp only at h;split at h
        · rename_i hlen
          obtain⟨xs,L,hx⟩:=oM_.1 h;have K:d= .agg (xs.map (·.1)):=by have:=congrArg Prod.fst hx;simpa using this.symm
          subst K
          by_cases G:rj P fs.toList 0=some (P.cellsOf t)
          · obtain⟨ρ₁,σ₁,vss,i1,r1,l1,F,I,hh⟩:=rO ih (fs.toList.map fun f=>(f.type,(cs.drop f.offset).take<|P.cellsOf f.type)) xs (by rw[mapM_map];exact L) U V hi Q
            have hflat:=(nY (cs:=cs) G oM).1;have hle:=F9 G;have F:vss.length=fs.toList.length:=by simpa using F
            have I:xs.length=fs.toList.length:=by simpa using I
            have E:∀(i:Nat) (f:Field) (vs:List Y),fs.toList[i]? =some f->vss[i]? =some vs->∃x,xs[i]? =some x/\eG P σ₁ fuel f.type x.1 vs/\di ρ₁ vs ((cs.drop f.offset).take<|P.cellsOf f.type):=fun i f vs hf hv=>by
              have A:i<xs.length:=by rw[I];exact(gA.1 hf).1
              obtain⟨W,R⟩:=hh i (f.type,(cs.drop f.offset).take<|P.cellsOf f.type) xs[i] vs (by rw[gM_,hf];rfl) (gC A) hv;exact⟨xs[i],gC A,W,R⟩
            have M:∀(i:Nat) (f:Field) (vs:List Y),fs.toList[i]? =some f->vss[i]? =some vs->vs.length=P.cellsOf f.type:=fun i f vs hf hv=>by
              obtain⟨x,_,_,k⟩:=E i f vs hf hv;have h1:=k.length;have h2:=hle f (gB_ hf);rw[lT_,lD_] at h1;omega
            have T:di ρ₁ vss.flatten cs:=by
              have:=di.flatten (U:=ρ₁) (vss:=vss) (css:=fs.toList.map fun f=>(cs.drop f.offset).take (P.cellsOf f.type)) (by simpa using F) (fun i vs c hv hc=>by
                rw[gM_] at hc;cases hf:fs.toList[i]? with
                | none=>rw[hf] at hc;cases hc
                | some f=>
                  rw[hf] at hc;cases hc;obtain⟨x,_,_,k⟩:=E i f vs hf hv;exact k)
              rw[hflat,List.drop_zero,Nat.sub_zero,<-hlen,List.take_length] at this;exact this
            refine⟨ρ₁,σ₁,vss.flatten,i1,r1,l1,?_,T⟩;unfold eG;rw[hu];dsimp only;intro _;refine⟨by simpa using I,by rw[<-hlen];exact T.length.symm,fun i f x hf hx=>?_⟩;have N:fs.toList[i]? =some f:=by rw[aT_];exact hf
            have A:i<vss.length:=by rw[F];exact(gA.1 N).1
            obtain⟨_,hp⟩:=xe G M F N (gC A);obtain⟨y,hy,k,_⟩:=E i f vss[i] N (gC A);rw[gM_,hy] at hx;cases hx;rw[Nat.sub_zero] at hp;rw[hp];exact k
          · exact other fun vs=>by unfold eG;rw[hu];exact fun h'=>absurd h' G
        · cases h
      | array m e=>
        dsimp only at h;split at h
        · rename_i hlen
          obtain⟨xs,L,hx⟩:=oM_.1 h;have K:d= .agg (xs.map (·.1)):=by have:=congrArg Prod.fst hx;simpa using this.symm
          subst K
          by_cases G:P.cellsOf t=m*P.cellsOf e
          · obtain⟨ρ₁,σ₁,vss,i1,r1,l1,F,I,hh⟩:=rO ih ((List.range m).map fun i=>(e,(cs.drop (i*P.cellsOf e)).take<|P.cellsOf e)) xs (by rw[mapM_map];exact L) U V hi Q
            have F:vss.length=m:=by simpa using F
            have I:xs.length=m:=by simpa using I
            have E:∀(i:Nat) (vs:List Y),vss[i]? =some vs->∃x,xs[i]? =some x/\eG P σ₁ fuel e x.1 vs/\di ρ₁ vs ((cs.drop (i*P.cellsOf e)).take<|P.cellsOf e):=fun i vs hv=>by
              have C:i<m:=by rw[<-F];exact(gA.1 hv).1
              have A:i<xs.length:=by omega
              obtain⟨W,R⟩:=hh i (e,(cs.drop (i*P.cellsOf e)).take<|P.cellsOf e) xs[i] vs (by rw[gM_,zr_ C];rfl) (gC A) hv;exact⟨xs[i],gC A,W,R⟩
            have M:∀vs∈vss,vs.length=P.cellsOf e:=fun vs hv=>by
              obtain⟨i,C,rfl⟩:=List.getElem_of_mem hv;obtain⟨x,_,_,k⟩:=E i _ (gC C);have h1:=k.length;rw[lT_,lD_,hlen,G] at h1;have:(i+1)*P.cellsOf e<=m*P.cellsOf e:=nM_ _ oM;rw[Nat.succ_mul] at this;omega
            have T:di ρ₁ vss.flatten cs:=by
              have:=di.flatten (U:=ρ₁) (vss:=vss) (css:=(List.range m).map fun i=>(cs.drop (i*P.cellsOf e)).take (P.cellsOf e)) (by simpa using F) (fun i vs c hv hc=>by
                obtain⟨x,_,_,k⟩:=E i vs hv;have C:i<m:=by rw[<-F];exact(gA.1 hv).1
                rw[gM_,zr_ C] at hc;cases hc;exact k)
              rw[chunks_flatten,<-G,<-hlen,List.take_length] at this;exact this
            refine⟨ρ₁,σ₁,vss.flatten,i1,r1,l1,?_,T⟩;unfold eG;rw[hu];dsimp only;intro _;refine⟨by simpa using I,by rw[<-hlen];exact T.length.symm,fun i x hx=>?_⟩
            have C:i<vss.length:=by
              have:=(gA.1 hx).1;rw[lM_] at this;omega
            rw[nK M<|gC C];obtain⟨y,hy,k,_⟩:=E i vss[i] (gC C);rw[gM_,hy] at hx;cases hx;exact k
          · exact other fun vs=>by unfold eG;rw[hu];exact fun h'=>absurd h' G
        · cases h
      | slice e=>
        split at h<;>first | (rename_i he;cases he;done) | skip
        all_goals first
          | (rename_i he
             cases h;exact one (v:=.aw) Z (fun U=>by simp only[VR]) (by unfold eG;rw[hu]))
          | (rename_i e' a len cap he
             cases he;exact Ob hw ih hu h hi Q)
          | cases h
      | _=>exact other fun vs=>by unfold eG;rw[hu];trivial
end
variable {ca cs fi vs:List Y} {mk:Mk} {e:Nat} {y:Operand} {ob:cd} {cp:oY}
section
variable {P:Program} {G:Cx} {ev:Operand->Option Y} {V:D}
theorem AQ (V:D) (o:cd):(V.alloc o).m.get V.next=some o:=PT.dR _ _ _
theorem sF (V:D) (o:cd) {b:Nat} (h:b<V.next):(V.alloc o).m.get b=V.m.get b:=PT.dD _ _ _ _ (Nat.ne_of_lt h)
theorem Dg (V:D) (b:Nat) (o:cd):(V.setObj b o).m.get b=some o:=PT.dR _ _ _
theorem sH (V:D) {b b':Nat} (o:cd) (h:b'≠b):(V.setObj b o).m.get b'=V.m.get b':=PT.dD _ _ _ _ h
theorem an {v:Y} (h:ev x=some v):dM P G ev V (.move x)= .val v V:=by
 show(match ev x with | some v=>HR.val v V | none=>_)=_;rw[h]
theorem al {v:Y} (h:ev x=some v):dM P G ev V (.assign x)= .val v V:=by
 show(match ev x with | some v=>HR.val v V | none=>_)=_;rw[h]
theorem bK {op:Op} {v:Y} (hk:kindOf P op= .pure) (h:dH P ev op=some v):dM P G ev V op= .val v V:=by
 unfold dM;simp_all
theorem AE {op:Op} {v:Y} (hk:kindOf P op= .read) (h:gG P ev V op=some v):dM P G ev V op= .val v V:=by
 unfold dM;simp_all
theorem vn {op:Op} (hk:kindOf P op= .alloc) (h:fV P ev op=some (ob,mk)):dM P G ev V op= .val (mk.of V.next) (V.alloc ob):=by
 unfold dM;simp_all
theorem jV {op:Op} {r:HR} (hk:kindOf P op= .kg) (h:fX P G.ov ev V op=r):dM P G ev V op=r:=by
 unfold dM;rw[hk];exact h
theorem av {t:TypeId} {b:Pos} {off:Nat} {cells:List Y} {ro:Bool} {v:Y} (hx:ev x=some (.ptr b off)) (hb:V.m.get b=some (.row cells e ro)) (u:dE P t=some none) (hv:nth cells off=some v):dM P G ev V (.load t x)= .val v V:=by
 refine AE Z ?_;simp only[gG,hx,hb,u,hv]
theorem bh {t:TypeId} {b:Pos} {off n:Nat} {cells:List Y} {ro:Bool} (hx:ev x=some (.ptr b off)) (hb:V.m.get b=some (.row cells e ro)) (A:dE P t=some (some n)) (hl:off+n<=cells.length) (hv:(cells.drop off).take n=vs):dM P G ev V (.load t x)= .val (.agg vs) V:=by
 refine AE Z ?_;have u:Nat.ble (off+n) (dt cells)=true:=by rw[nE_,cC];exact hl
 simp only[gG,hx,hb,A,u,cond_true,dT,eB,hv]
theorem ay {s:TypeId} {i:Nat} {b:Pos} {off k:Nat} (hx:ev x=some (.ptr b off)) (hk:ow P s i=some k):dM P G ev V (.fieldAddr s x i)= .val (.ptr b (off+k)) V:=by
 refine bK Z ?_;unfold ow at hk;simp only[dH,hx];cases u:structOf P s with
 | none=>simp_all
 | some fs=>
  rw[u] at hk;dsimp only at hk⊢;cases hf:fs[i]? with
  | none=>simp_all
  | some f=>
   rw[hf] at hk;dsimp only at hk⊢;rw[qD] at hk
   grind
theorem SK {t e:TypeId} {j:TypeInfo} {i:Operand} {b:Pos} {off len n:Nat} {c:oY} {k:IntKind} (u:P.underlying t=some (.slice e)) (hj:P.info? e=some j) (hx:ev x=some (.slice b off len c)) (hi:ev i=some (.int k (.ofNat n))) (hn:n<len):dM P G ev V (.indexAddr t x i)= .val (.ptr b (off+n*j.size)) V:=by
 refine bK Z ?_;have:Nat.ble (Nat.succ n) len=true:=by rw[nE_];exact hn
 simp only[dH,u,hx,hi,hj,this,cond_true]
theorem CI {c:Call} {t e:TypeId} {b:Pos} {off len:Nat} (hc:c.callee= .builtin .len) (u:c.argTypes[0]? =some t) (A:c.args.toList= [x]) (hu:P.underlying t=some (.slice e)) (hx:ev x=some (.slice b off len cp)):dM P G ev V (.call c)= .val (.int .i64 (.ofNat len)) V:=by
 refine bK (by simp[kindOf,hc,isMap,u,hu]) ?_;simp only[dH,hc,u,A,hx,zy,hu,Option.map_some]
theorem aB {o:BinOp} {t r:TypeId} {a b v:Y} (hx:ev x=some a) (hy:ev y=some b) (h:pV P (BS x || BS y) o t a b=some v):dM P G ev V (.binOp o t x y r)= .val v V:=by
 refine bK Z ?_;simp only[dH,hx,hy,h]
theorem aR {c a b:Operand} {q:Bool} {v:Y} (hc:ev c=some (.bool q)) (h:(if q then ev a else ev b)=some v):dM P G ev V (.pick c a b)= .val v V:=by
 refine bK Z ?_;cases q with
 | true=>simp only[dH,hc];exact h
 | false=>simp only[dH,hc];exact h
theorem ek {t:TypeId} {q:Bool} (hx:ev x=some (.bool q)):dM P G ev V (.unOp .not t x)= .val (.bool (!q)) V:=by
 refine bK Z ?_;simp only[dH,hx];cases q<;>rfl
theorem cL {e:TypeId} {v:Y} (hx:ev x=some v) (hc:cE v=some cs):dM P G ev V (.box e x)= .val (.ptr V.next 0) (V.alloc (.row cs e false)):=by
 exact vn (op:=.box e x) (mk:=.ptr) (ob:=.row cs e false) Z (by simp only[fV,hx,Option.bind_some,hc])
theorem cA {e:TypeId} (u:(fx P e).bind cE=some cs) (A:uQ P e=false):dM P G ev V (.alloc e)= .val (.ptr V.next 0) (V.alloc (.row cs e false)):=by
 exact vn (op:=.alloc e) (mk:=.ptr) (ob:=.row cs e false) Z (by simp only[fV,u,A,cond_false])
theorem SM {t:TypeId} {b:Pos} {off:Nat} {v:Y} {cells:List Y} {j:TypeInfo} (hx:ev x=some (.ptr b off)) (hy:ev y=some v) (hc:cE v=some cs) (hb:V.m.get b=some (.row cells e false)) (hj:P.info? t=some j) (hl:cs.length=j.size) (hle:off+j.size<=cells.length) (aa:cg cs=true):
  dM P G ev V (.store t x y)= .skip (V.setObj b (.row (dp cs cells off) e false)):=by
 refine jV Z ?_
 have h1:(Nat.beq (dt cs) j.size && Nat.ble (off+j.size) (dt cells) && cg cs)=true:=by
  rw[bA_,bA_,Nat.beq_eq,nE_,cC,cC]
  simp_all
 simp only[fX,hx,hy,Aq,hc,hb,hj,h1,cond_true]
theorem aP {c:Call} {f:Operand} {g:Nat} {args:List Y} (hc:c.callee= .value f) (hf:ev f=some (.func g fi ca)) (u:mB ev c.args.toList=some args) (A:lz P g=true):dM P G ev V (.call c)= .enter g (fi++(args++ca)) V:=by
 refine jV (by simp[kindOf,hc]) ?_;simp only[fX,hc,hf,u,Bp,A,cond_true,dU]
end
end Go.Ev
namespace Go.Ev
section
variable [Env] {P:Program} {G:Cx} {ev:Operand->Option Y} {V:D}
theorem aQ {id:Nat} {Q:Ex->PT Y->D->Prop} {t:PT Y} (h:Q .normal t V):mg id Q (.exit id) t V:=by
 show(if id=id then _ else _)
 simp_all
theorem iE {id j:Nat} {Q:Ex->PT Y->D->Prop} {t:PT Y} (hj:Nat.beq j id=false) (h:Q (.exit j) t V):mg id Q (.exit j) t V:=by
 show(if j=id then _ else _);rw[if_neg (fun e=>by simp_all)];exact h
theorem aT {n i:Nat} {b:Code} {Q:Ex->PT Y->D->Prop} {t:PT Y} (h:Q (.exit i) t V):dW P G n b Q (.exit i) t V:=h
theorem aA {n:Nat} {b:Code} {Q:Ex->PT Y->D->Prop} {t:PT Y} (h:Q .ret t V):dW P G n b Q .ret t V:=h
theorem dP {t e:TypeId} {m:Nat} {x i:Operand} {b:Pos} {off len n:Nat} {c:oY} {k:IntKind} (u:P.underlying t=some (.slice e)) (hj:(P.info? e).map (·.size)=some m) (hx:ev x=some (.slice b off len c)) (hi:ev i=some (.int k (.ofNat n))) (hn:n<len):dM P G ev V (.indexAddr t x i)= .val (.ptr b (off+n*m)) V:=by
 cases hq:P.info? e with
 | none=>simp_all
 | some j=>
  rw[hq] at hj;cases hj;exact SK u hq hx hi hn
theorem gW {t:TypeId} {m:Nat} {x y:Operand} {b:Pos} {off:Nat} {v:Y} {cs cells:List Y} {e:Nat} (hx:ev x=some (.ptr b off)) (hy:ev y=some v) (hc:cE v=some cs) (hb:V.m.get b=some (.row cells e false)) (hj:(P.info? t).map (·.size)=some m) (hl:cs.length=m) (hle:off+m<=cells.length) (aa:cg cs=true):
  dM P G ev V (.store t x y)= .skip (V.setObj b (.row (dp cs cells off) e false)):=by
 cases hq:P.info? t with
 | none=>simp_all
 | some j=>
  grind [SM]
end
end Go.Ev
namespace Go.Ev
variable [Env]
variable {α:Type} {parts:Array (Nat×Operand)} {places:List (Nat×Nat)} {cs vs:List Y} {la:List α} {e id j:Nat} {io x xo y:Operand} {ob:cd} {R:α->List Y->Prop}
abbrev KP:=Nat->cd->Prop
def KP.le (K K':KP):Prop:=∀b o,K b o->K' b o
theorem KP.le_refl (K:KP):KP.le K K:=fun _ _ h=>h
theorem KP.le_trans {K K' K'':KP} (h:KP.le K K') (h':KP.le K' K''):KP.le K K'':=fun b o hb=>h' b o (h b o hb)
def KP.add (K:KP) (b:Nat) (o:cd):KP:=fun b' o'=>K b' o'∨(b'=b/\o'=o)
theorem KP.zw (K:KP) (b:Nat) (o:cd):KP.le K (K.add b o):=fun _ _ h=>.inl h
abbrev Own:=List (Nat×cd)
structure H (V:D) (K:KP) (L:Own):Prop where
 kept:∀b o,K b o->b<V.next/\V.m.get b=some o/\∀e∈L,e.1≠b
 own:∀e∈L,e.1<V.next/\V.m.get e.1=some e.2
 ne:L.Pairwise fun a b=>a.1≠b.1
section
variable {V:D} {K:KP} {L:Own}
theorem H.bJ (h:H V K L) {b:Nat} {o:cd} (hk:K b o):V.m.get b=some o:=(h.kept b o hk).2.1
theorem H.get (h:H V K L) (k:Nat) {b:Nat} {o:cd} (hk:L[k]? =some (b,o)):V.m.get b=some o:=(h.own _<|gB_ hk).2
theorem H.alloc (h:H V K L) (o:cd):H (V.alloc o) K ((V.next,o)::L) where
 kept b o' hb:=by
  obtain⟨h1,u,h3⟩:=h.kept b o' hb;refine⟨Nat.lt_succ_of_lt h1,by rw[sF V o h1];exact u,fun e he=>?_⟩
  grind
 own e he:=by
  rcases mQ_.1 he with rfl | he
  ·exact⟨Nat.lt_succ_self _,AQ _ _⟩
  obtain⟨h1,u⟩:=h.own e he;exact⟨Nat.lt_succ_of_lt h1,by rw[sF V o h1];exact u⟩
 ne:=List.pairwise_cons.2 ⟨fun e he=>fun hh=>by have:=(h.own e he).1;omega,h.ne⟩
theorem H.pop {e:Nat×cd} (h:H V K (e::L)):H V K L where
 kept b o hb:=let ⟨h1,u,h3⟩:=h.kept b o hb;⟨h1,u,fun e he=>h3 e (mC_ _ he)⟩
 own e he:=h.own e (mC_ _ he)
 ne:=(List.pairwise_cons.1 h.ne).2
theorem H.cF:∀{M:Own},H V K (M++L)->H V K L
 | [],h=>h
 | _::_,h=>H.cF h.pop
theorem H.perm {L':Own} (h:H V K L) (hp:L.Perm L'):H V K L' where
 kept b o hb:=let ⟨h1,A,h3⟩:=h.kept b o hb;⟨h1,A,fun e he=>h3 e (hp.mem_iff.2 he)⟩
 own e he:=h.own e (hp.mem_iff.2 he)
 ne:=(hp.pairwise_iff (fun {a b} u=>fun e=>u e.symm)).1 h.ne
theorem H.tx {b:Nat} {o:cd} (h:H V K ((b,o)::L)):H V (K.add b o) L where
 kept b' o' hb:=by
  rcases hb with hb | ⟨rfl,rfl⟩
  ·exact h.pop.kept b' o' hb
  exact⟨(h.own _<|mS_ ..).1,(h.own _<|mS_ ..).2,fun e he hh=>(List.pairwise_cons.1 h.ne).1 e he hh.symm⟩
 own:=h.pop.own
 ne:=h.pop.ne
theorem H.nU {b:Nat} {o:cd} (h:H V K ((b,o)::L)) (o':cd):H (V.setObj b o') K ((b,o')::L) where
 kept b' o'' hb:=by
  obtain⟨h1,u,h3⟩:=h.kept b' o'' hb;refine⟨h1,by grind [sH,mS_],fun e he=>?_⟩;rcases mQ_.1 he with rfl | he
  ·simp_all
  grind
 own e he:=by
  rcases mQ_.1 he with rfl | he
  ·exact⟨(h.own _<|mS_ ..).1,Dg _ _ _⟩
  obtain⟨h1,u⟩:=h.own e (mC_ _ he);exact⟨h1,by rw[sH V o' (fun hh=>(List.pairwise_cons.1 h.ne).1 e he hh.symm)];exact u⟩
 ne:=List.pairwise_cons.2 ⟨(List.pairwise_cons.1 h.ne).1,(List.pairwise_cons.1 h.ne).2⟩
theorem H.R9 {b:Nat} {o:cd} {x:Nat×cd} (h:H V K (x::(b,o)::L)) (o':cd):H (V.setObj b o') K (x::(b,o')::L):=
 ((h.perm<|List.Perm.swap ..).nU o').perm (List.Perm.swap ..)
theorem OR (x y z:α) (L:List α):(x::y::z::L).Perm (z::x::y::L):=
 (List.Perm.cons x<|List.Perm.swap z y L).trans (List.Perm.swap z x (y::L))
theorem H.VQ {b:Nat} {o:cd} {x y:Nat×cd} (h:H V K (x::y::(b,o)::L)) (o':cd):H (V.setObj b o') K (x::y::(b,o')::L):=
 ((h.perm<|OR ..).nU o').perm (OR ..).symm
theorem S5 (x y z u:α) (L:List α):(x::y::z::u::L).Perm (u::x::y::z::L):=
 (List.Perm.cons x<|OR y z u L).trans (List.Perm.swap u x (y::z::L))
theorem H.VS {b:Nat} {o:cd} {x y z:Nat×cd} (h:H V K (x::y::z::(b,o)::L)) (o':cd):H (V.setObj b o') K (x::y::z::(b,o')::L):=
 ((h.perm<|S5 ..).nU o').perm (S5 ..).symm
theorem H.Dz {b:Nat} {o:cd} (h:H V K ((b,o)::L)) (o':cd):H ((V.drop b).alloc o') K ((V.next,o')::L):=by
 refine H.alloc (V:=V.drop b) ⟨fun b' o'' hb=>?_,fun e he=>?_,h.pop.ne⟩ o'
 ·obtain⟨h1,u,h3⟩:=h.kept b' o'' hb;exact⟨h1,by rw[show(V.drop b).m.get b'=V.m.get b' from PT.dD _ _ _ _ (fun e=>h3 _ (mS_ ..) e.symm)];exact u,fun e he=>h3 e (mC_ _ he)⟩
 obtain⟨h1,u⟩:=h.own e (mC_ _ he);exact⟨h1,by rw[show(V.drop b).m.get e.1=V.m.get e.1 from PT.dD _ _ _ _ (fun hh=>(List.pairwise_cons.1 h.ne).1 e he hh.symm)];exact u⟩
theorem H.named (h:H V K L):∃L',H V K L'/\L=L':=⟨L,h,Z⟩
end
def eT (K:KP) (p:Y) (vs:List Y):Prop:=
 ∃(b off:Nat) (cells:List Y) (e:Nat) (ro:Bool),p= .ptr b off/\K b (.row cells e ro)/\off+vs.length<=cells.length/\(cells.drop off).take vs.length=vs
def MK (m len:Nat) (c:oY):Prop:=c= .upto m∨∃n,c= .known n/\len<=n
def bG {α:Type} (K:KP) (m:Nat) (R:α->List Y->Prop) (l:List α) (v:Y):Prop:=
 (l= []/\v= .aw)∨∃(b off:Nat) (c:oY) (cells:List Y) (e:Nat) (ro:Bool),v= .slice b off l.length c/\MK m l.length c/\K b (.row cells e ro)/\off+l.length*m<=cells.length/\l.length<=9223372036854775807/\
  ∀(i:Nat) (x:α),l[i]? =some x->R x ((cells.drop (off+i*m)).take m)
theorem bG.mono {K K':KP} {m:Nat} {R':α->List Y->Prop} {l:List α} {v:Y} (h:bG K m R l v) (hk:KP.le K K') (u:∀x vs,R x vs->R' x vs):bG K' m R' l v:=by
 rcases h with h | ⟨b,off,c,cells,e,ro,h1,A,h3,C,h5⟩
 ·exact .inl h
 exact .inr ⟨b,off,c,cells,e,ro,h1,A,hk _ _ h3,C,h5.1,fun i x hx=>u x _ (h5.2 i x hx)⟩
theorem bG.cQ {K:KP} {m:Nat} {l:List α} {v:Y} (h:bG K m R l v):l.length<=9223372036854775807:=by
 rcases h with ⟨rfl,_⟩ | ⟨b,off,c,cells,e,ro,h1,h2,h3,h4,h5,_⟩
 ·exact Nat.zero_le _
 exact h5
theorem bG.leaf {K:KP} {m:Nat} {l:List α} {v:Y} (h:bG K m R l v):cE v=some [v]/\eX v=true:=by
 rcases h with ⟨_,rfl⟩ | ⟨b,off,c,cells,e,ro,rfl,_⟩<;>exact⟨rfl,rfl⟩
theorem bG.zy {α:Type} {K:KP} {m:Nat} {R:α->List Y->Prop} {l:List α} {v:Y} (h:bG K m R l v) {P:Program} {t e:TypeId} (hu:P.underlying t=some (.slice e)):Go.Ev.zy P t v=some l.length:=by
 rcases h with ⟨rfl,rfl⟩ | ⟨b,off,c,cells,e,ro,rfl,_⟩
 ·simp only[Go.Ev.zy,hu];rfl
 simp only[Go.Ev.zy,hu]
theorem bG.at {α:Type} {K:KP} {m:Nat} {R:α->List Y->Prop} {l:List α} {v:Y} (h:bG K m R l v) {i:Nat} {x:α} (hi:l[i]? =some x):
  ∃(b off:Nat) (c:oY) (vs:List Y),v= .slice b off l.length c/\i<l.length/\eT K (.ptr b (off+i*m)) vs/\vs.length=m/\R x vs:=by
 have u:i<l.length:=(gA.1 hi).1;rcases h with ⟨rfl,_⟩ | ⟨b,off,c,cells,e,ro,rfl,h2,h3,h4,h5⟩
 ·simp_all
 have hle:(i+1)*m<=l.length*m:=nM_ _ u;rw[Nat.succ_mul] at hle;have hn:((cells.drop (off+i*m)).take m).length=m:=by grind
 refine⟨b,off,c,_,Z,u,⟨b,off+i*m,cells,e,ro,Z,h3,by rw[hn];omega,by rw[hn]⟩,hn,h5.2 i x hi⟩
section
variable {P:Program} {G:Cx} {ev:Operand->Option Y} {V:D} {K:KP} {L:Own}
theorem aZ {m:Nat} {l:List α} {c:Call} {t e:TypeId} {v:Y} (A:bG K m R l v) (hc:c.callee= .builtin .len) (u:c.argTypes[0]? =some t) (C:c.args.toList= [x]) (hu:P.underlying t=some (.slice e)) (hx:ev x=some v):dM P G ev V (.call c)= .val (.int .i64 (.ofNat l.length)) V:=by
 refine bK (by simp[kindOf,hc,isMap,u,hu]) ?_;simp only[dH,hc,u,C,hx,A.zy hu,Option.map_some]
theorem mW {c:Call} {t:TypeId} {s:List Nat} (hc:c.callee= .builtin .len) (u:c.argTypes[0]? =some t) (A:c.args.toList= [x]) (hu:P.underlying t=some .string) (hx:ev x=some (.str s)):dM P G ev V (.call c)= .val (.int .i64 (.ofNat<|dt s)) V:=by
 refine bK (by simp[kindOf,hc,isMap,u,hu]) ?_;simp only[dH,hc,u,A,hx,zy,hu,Option.map_some]
theorem aO {t:TypeId} {p v:Y} (u:H V K L) (hp:eT K p vs) (hx:ev x=some p) (A:dE P t=some none) (hv:vs[0]? =some v):dM P G ev V (.load t x)= .val v V:=by
 obtain⟨b,off,cells,e,ro,rfl,C,h3,h4⟩:=hp;refine av hx (u.bJ C) A ?_
 grind [fL]
theorem Qb {t:TypeId} {p:Y} {n:Nat} (u:H V K L) (hp:eT K p vs) (hx:ev x=some p) (A:dE P t=some (some n)) (hv:n<=vs.length):dM P G ev V (.load t x)= .val (.agg<|vs.take n) V:=by
 obtain⟨b,off,cells,e,ro,rfl,C,h3,h4⟩:=hp;refine bh hx (u.bJ C) A oM ?_
 grind
end
section
variable {P:Program} {G:Cx} {n:Nat} {t:PT Y} {V:D} {K:KP} {L:Own} {Q:Ex->PT Y->D->Prop} {ops:Array Oper} {o:Oper} {l:List Oper}
theorem a7 {c:Bool} {t':Bool->PT Y} (hw:bH ops t o=some true) (hv:dM P G (bA G t) V o.op= .val (.bool c) V) (hp:∀b,dA t n o.dst (.bool b)=some (t' b))
  (h1:c=true->bL P G ops n l (t' true) V Q) (h0:c=false->bL P G ops n l (t' false) V Q):bL P G ops n (o::l) t V Q:=by
 refine S hw hv (hp c) ?_;cases c with
 | true=>exact h1 Z
 | false=>exact h0 Z
theorem br (u:H V K L) {t':Nat->PT Y} (hw:bH ops t o=some true) (hv:dM P G (bA G t) V o.op= .val (.ptr V.next 0) (V.alloc ob)) (hp:∀b,dA t n o.dst (.ptr b 0)=some (t' b))
  (h:∀(V':D) (b:Nat),H V' K ((b,ob)::L)->bL P G ops n l (t' b) V' Q):bL P G ops n (o::l) t V Q:=
 S hw hv (hp _) (h _ _<|u.alloc ob)
theorem gE (u:H V K L) {k c:Nat} {t':Nat->PT Y} (hw:bH ops t o=some true) (hv:dM P G (bA G t) V o.op= .val (.slice V.next 0 k (.known c)) (V.alloc ob)) (hp:∀b,dA t n o.dst (.slice b 0 k (.known c))=some (t' b))
  (h:∀(V':D) (b:Nat),H V' K ((b,ob)::L)->bL P G ops n l (t' b) V' Q):bL P G ops n (o::l) t V Q:=
 S hw hv (hp _) (h _ _<|u.alloc ob)
theorem bO {b:Nat} {ob':cd} {t':PT Y} (u:H V K ((b,ob)::L)) (hw:bH ops t o=some true) (hv:dM P G (bA G t) V o.op= .skip (V.setObj b ob')) (hp:dA t n o.dst unit=some t')
  (h:∀V',H V' K ((b,ob')::L)->bL P G ops n l t' V' Q):bL P G ops n (o::l) t V Q:=iu hw hv hp (h _<|u.nU ob')
theorem gF {b:Nat} {ob':cd} {x:Nat×cd} {t':PT Y} (u:H V K (x::(b,ob)::L)) (hw:bH ops t o=some true) (hv:dM P G (bA G t) V o.op= .skip (V.setObj b ob')) (hp:dA t n o.dst unit=some t')
  (h:∀V',H V' K (x::(b,ob')::L)->bL P G ops n l t' V' Q):bL P G ops n (o::l) t V Q:=iu hw hv hp (h _<|u.R9 ob')
theorem pz {b:Nat} {ob':cd} {x y:Nat×cd} {t':PT Y} (u:H V K (x::y::(b,ob)::L)) (hw:bH ops t o=some true) (hv:dM P G (bA G t) V o.op= .skip (V.setObj b ob')) (hp:dA t n o.dst unit=some t')
  (h:∀V',H V' K (x::y::(b,ob')::L)->bL P G ops n l t' V' Q):bL P G ops n (o::l) t V Q:=iu hw hv hp (h _<|u.VQ ob')
theorem T1 {b:Nat} {ob':cd} {x y z:Nat×cd} {t':PT Y} (u:H V K (x::y::z::(b,ob)::L)) (hw:bH ops t o=some true) (hv:dM P G (bA G t) V o.op= .skip (V.setObj b ob')) (hp:dA t n o.dst unit=some t')
  (h:∀V',H V' K (x::y::z::(b,ob')::L)->bL P G ops n l t' V' Q):bL P G ops n (o::l) t V Q:=iu hw hv hp (h _<|u.VS ob')
theorem bX {m:Nat} {v:Y} {i:Nat} {x:α} {ty e:TypeId} {k:IntKind} {t':Y->PT Y} (C:bG K m R la v) (hi:la[i]? =some x) (hw:bH ops t o=some true) (E:o.op= .indexAddr ty xo io)
  (F:P.underlying ty=some (.slice e)) (hj:(P.info? e).map (·.size)=some m) (hx:bA G t xo=some v) (u:bA G t io=some (.int k (.ofNat i))) (hp:∀p,dA t n o.dst p=some (t' p))
  (h:∀p vs,eT K p vs->vs.length=m->R x vs->bL P G ops n l (t' p) V Q):bL P G ops n (o::l) t V Q:=by
 obtain⟨b,off,c,vs,rfl,A,h1,I,h3⟩:=C.at hi;refine S hw ?_ (hp _)<|h _ vs h1 I h3;rw[E];exact dP F hj hx u A
theorem bU {p:Y} {s:TypeId} {i k:Nat} {t':Y->PT Y} (u:eT K p vs) (hw:bH ops t o=some true) (A:o.op= .fieldAddr s xo i) (hx:bA G t xo=some p) (hk:ow P s i=some k) (hl:k<=vs.length) (hp:∀p,dA t n o.dst p=some (t' p))
  (h:∀p',eT K p' (vs.drop k)->bL P G ops n l (t' p') V Q):bL P G ops n (o::l) t V Q:=by
 obtain⟨b,off,cells,e,ro,rfl,C,h3,h4⟩:=u;refine S hw ?_ (hp _)<|h _ ⟨b,off+k,cells,e,ro,Z,C,by grind,?_⟩
 ·rw[A];exact ay hx hk
 grind [List.drop_take,zl_]
theorem cq {f:Nat} {args:List Y} {t':Y->PT Y} {R:Y->D->Prop} (hw:bH ops t o=some true) (hv:dM P G (bA G t) V o.op= .enter f args V) (hp:∀v,dA t n o.dst v=some (t' v))
  (hc:aW P G f args V R) (h:∀v V',R v V'->bL P G ops n l (t' v) V' Q):bL P G ops n (o::l) t V Q:=
 Hc hw hv (hc.mono fun v V' u=>⟨_,hp v,h v V' u⟩)
theorem aG {a b:Code} {c:Bool} (hc:bA G t x=some (.bool c)) (h1:c=true->Ev P G a n t V Q) (h0:c=false->Ev P G b n t V Q):Ev P G (.cond x a b) n t V Q:=by
 refine De hc ?_
 grind
end
theorem aC:cg []=true:=rfl
theorem aj {v:Y} (h:eX v=true) (hs:cg vs=true):cg (v::vs)=true:=by
 grind [cg]
section
variable {P:Program} {G:Cx} {ev:Operand->Option Y} {V:D} {K:KP} {L:Own}
theorem aL {t:TypeId} {m:Nat} {b:Pos} {off:Nat} {v:Y} {cells cells':List Y} (hx:ev x=some (.ptr b off)) (hy:ev y=some v) (hc:cE v=some cs) (hb:V.m.get b=some (.row cells e false)) (hj:(P.info? t).map (·.size)=some m) (hl:cs.length=m) (hle:off+m<=cells.length) (u:cg cs=true) (A:dp cs cells off=cells'):
  dM P G ev V (.store t x y)= .skip (V.setObj b (.row cells' e false)):=by
 subst A;exact gW hx hy hc hb hj hl hle u
theorem cm {t:TypeId} {p:Y} {n:Nat} (hs:H V K L) (hp:eT K p vs) (hx:ev x=some p) (ha:dE P t=some (some n)) (hv:vs.length=n):dM P G ev V (.load t x)= .val (.agg vs) V:=by
 grind [Qb,List.take_length]
def placesOf (P:Program) (t:TypeId):Option (List (Nat×Nat)):=(structOf P t).bind fun fs=>cX (fun f:Field=>(P.info? f.type).map fun j=>(f.offset,j.size)) fs.toList
theorem cD {place:Nat->Option (Nat×Nat)} {cells:List Y}:ka place ev [] cells=some cells:=rfl
theorem bn {place:Nat->Option (Nat×Nat)} {i:Nat} {l:List (Nat×Operand)} {cells:List Y} {off size:Nat} {v:Y} {r:Option (List Y)} (hp:place i=some (off,size)) (hx:ev x=some v) (hc:cE v=some vs) (hl:(Nat.beq (dt vs) size && Nat.ble (off+size) (dt cells))=true) (h:ka place ev l (dp vs cells off)=r):ka place ev ((i,x)::l) cells=r:=by
 grind [ka]
theorem cY {t:TypeId} {zero:List Y} (hp:placesOf P t=some places) (A:(fx P t).bind cE=some zero) (hu:dE P t=some (some zero.length)) (hf:ka (nth places) ev parts.toList zero=some cs) (u:(structOf P t).isSome=true):dM P G ev V (.build t parts)= .val (.agg cs) V:=by
 refine bK Z ?_;unfold placesOf structOf at hp;unfold structOf at u;rw[oT] at hp u;simp only[dH,A]
 grind
theorem iC {s d:TypeId} {j k:IntKind} {n:Int} (hk:kindOf P (.convert s d x)= .pure) (u:P.underlying s=some (.int j)) (A:P.underlying d=some (.int k)) (hx:ev x=some (.int j n)):dM P G ev V (.convert s d x)= .val (.int k<|wr k n) V:=by
 refine bK hk ?_;simp only[dH,u,A,hx]
end
section
variable {P:Program} {G:Cx} {n:Nat} {t:PT Y} {V:D} {K:KP} {L:Own} {Q:Ex->PT Y->D->Prop} {ops:Array Oper} {o:Oper} {l:List Oper}
theorem Jp {f:Nat} {args:List Y} {c:Bool} {t':Y->PT Y} (hw:bH ops t o=some true) (hv:dM P G (bA G t) V o.op= .enter f args V) (hp:∀v,dA t n o.dst v=some (t' v))
  (hc:aW P G f args V fun v V'=>v= .bool c/\H V' K L) (h1:c=true->∀V',H V' K L->bL P G ops n l (t' (.bool true)) V' Q) (h0:c=false->∀V',H V' K L->bL P G ops n l (t' (.bool false)) V' Q):bL P G ops n (o::l) t V Q:=
 cq hw hv hp hc fun v V' ⟨hv,O⟩=>by
  subst hv;cases c with
  | true=>exact h1 Z V' O
  | false=>exact h0 Z V' O
theorem bk {f:Nat} {args:List Y} {u:Y} {t':Y->PT Y} (hw:bH ops t o=some true) (hv:dM P G (bA G t) V o.op= .enter f args V) (hp:∀v,dA t n o.dst v=some (t' v))
  (hc:aW P G f args V fun v V'=>v=u/\H V' K L) (h:∀V',H V' K L->bL P G ops n l (t' u) V' Q):bL P G ops n (o::l) t V Q:=
 cq hw hv hp hc fun v V' ⟨hv,O⟩=>by simp_all
theorem aM {a b:Code} (hc:bA G t x=some (.bool true)) (h:Ev P G a n t V Q):Ev P G (.cond x a b) n t V Q:=De hc h
theorem aN {a b:Code} (hc:bA G t x=some (.bool false)) (h:Ev P G b n t V Q):Ev P G (.cond x a b) n t V Q:=De hc h
theorem ad {b:Code} (h:Ev P G b n t V Q):dW P G n b Q .normal t V:=h
theorem aD (h:Q .normal t V):mg id Q .normal t V:=h
theorem aI (h:Q .ret t V):mg id Q .ret t V:=h
def zF (I:Nat->PT Y->D->Prop) (j:Nat) (Q:Ex->PT Y->D->Prop) (e:Ex) (t:PT Y) (V:D):Prop:=
 match e with
 | .normal=>∃i,i<j/\I i t V
 | e=>Q e t V
theorem aJ {I:Nat->PT Y->D->Prop} (h:∃i,i<j/\I i t V):zF I j Q .normal t V:=h
theorem aV {I:Nat->PT Y->D->Prop} {i:Nat} (h:Q (.exit i) t V):zF I j Q (.exit i) t V:=h
theorem bP {I:Nat->PT Y->D->Prop} (h:Q .ret t V):zF I j Q .ret t V:=h
theorem NA {b:Code} (I:Nat->PT Y->D->Prop) (j:Nat) (u:I j t V) (step:∀j t V,I j t V->Ev P G b n t V (zF I j Q)):Ev P G (.loop b) n t V Q:=
 Q5 I (fun j t V h=>(step j t V h).mono fun e t' V' hq=>by cases e<;>exact hq) j t V u
end
def Lk:Nat:=1000
def Hy (f:Nat):Bool:=Nat.beq f 4
def Mf (f:Nat):Bool:=bif Nat.beq f 20 then true else Nat.beq f 66
structure Plain (G:Cx):Prop where
 h1:∀f a s,Mf f=false->G.D9 f a s=none
 h2:∀f a,Hy f=false->G.PB f a=none
 h3:G.mem= []
 h4:∀f a s,G.stop f a s=none
 h5:∀f,Nat.beq f Lk=false->G.fk f=false
theorem NB {P:Program} {G:Cx} (u:Plain G) {f:Nat} {fn:Func} {c:Code} {args:List Y} {V:D} {R:Y->D->Prop} {t:PT Y} (hf:P.funcs[f]? =some fn) (hb:fn.body=some c) (A:qd fn.ntmps args=some t)
  (h:Ev P G c fn.ntmps t V fun e t' V'=>(e= .normal∨e= .ret)/\∃v,ec P fn t' V'=some v/\R v V') (hk:Nat.beq f Lk=false:=by rfl) (hl:Hy f=false:=by rfl) (C:Mf f=false:=by rfl):aW P G f args V R:=
 Q4 (u.h1 _ _ _ C) (u.h2 _ _ hl) (u.h4 _ _ _) (u.h5 _ hk) hf hb A h
def G6 (P:Program) (fn:Func) (R:Y->D->Prop) (e:Ex) (t:PT Y) (V:D):Prop:=(e= .normal∨e= .ret)/\∃v,ec P fn t V=some v/\R v V
theorem aX {P:Program} {G:Cx} (u:Plain G) {f:Nat} {fn:Func} {c:Code} {args:List Y} {V:D} {R:Y->D->Prop} {t:PT Y} (hf:P.funcs[f]? =some fn) (hb:fn.body=some c) (A:qd fn.ntmps args=some t)
  (h:Ev P G c fn.ntmps t V (G6 P fn R)) (hk:Nat.beq f Lk=false:=by rfl) (hl:Hy f=false:=by rfl) (C:Mf f=false:=by rfl):aW P G f args V R:=NB u hf hb A h hk hl C
theorem FN {P:Program} {fn:Func} {k:Nat} {t:PT Y} {V:D} {v:Y} (u:fn.results.toList= [.tmp k]) (h:t.get k=some v):ec P fn t V=some v:=by
 unfold ec;rw[u]
 have:cX (gj P t V) [.tmp k]=some [v]:=by
  have h':gj P t V (.tmp k)=some v:=h;unfold cX;simp only[h']
 rw[this]
theorem qX {P:Program} {fn:Func} {k:Nat} {t:PT Y} {V:D} {u v:Y} (E:fn.results.toList= [.tmp j,.tmp k]) (h1:t.get j=some u) (F:t.get k=some v):ec P fn t V=some (.tuple [u,v]):=by
 unfold ec;rw[E]
 have:cX (gj P t V) [.tmp j,.tmp k]=some [u,v]:=by
  have A:gj P t V (.tmp j)=some u:=h1;have C:gj P t V (.tmp k)=some v:=F;unfold cX;simp only[A,C]
 rw[this]
theorem az {P:Program} {fn:Func} {R:Y->D->Prop} {t:PT Y} {V:D} {k:Nat} {v:Y} (u:fn.results.toList= [.tmp k]) (h:t.get k=some v) (A:R v V):G6 P fn R .ret t V:=⟨.inr Z,v,FN u h,A⟩
theorem db {P:Program} {fn:Func} {R:Y->D->Prop} {t:PT Y} {V:D} {k:Nat} {u v:Y} (A:fn.results.toList= [.tmp j,.tmp k]) (h1:t.get j=some u) (C:t.get k=some v) (E:R (.tuple [u,v]) V):G6 P fn R .ret t V:=⟨.inr Z,_,qX A h1 C,E⟩
end Go.Ev
namespace Go.Ev
theorem kO.eta {α:Type} (t:kO α):t=⟨(jZ 0).run t,(jZ 1).run t,(jZ 2).run t,(jZ 3).run t,(jZ 4).run t,(jZ 5).run t,(jZ 6).run t,(jZ 7).run t,(jZ 8).run t,(jZ 9).run t,(jZ 10).run t,(jZ 11).run t,(jZ 12).run t,(jZ 13).run t,(jZ 14).run t,(jZ 15).run t⟩:=by cases t;rfl
theorem kO.same {α:Type} {t t':kO α} (h:∀n,n<16->(jZ n).run t=(jZ n).run t'):t=t':=by
 rw[kO.eta t,h 0 (by decide),h 1 (by decide),h 2 (by decide),h 3 (by decide),h 4 (by decide),h 5 (by decide),h 6 (by decide),h 7 (by decide),h 8 (by decide),h 9 (by decide),h 10 (by decide),h 11 (by decide),h 12 (by decide),h 13 (by decide),h 14 (by decide),h 15 (by decide),<-kO.eta t']
theorem jD.same {α:Type} {t t':jD α} (h:∀k,k<256->lf t k=lf t' k):t=t':=by
 refine kO.same fun n hn=>kO.same fun m hm=>?_
 have:=h (n*16+m) oM;unfold lf at this;have e1:Nat.div (n*16+m) 16=n:=by show(n*16+m)/16=n;omega
 have e2:Nat.mod (n*16+m) 16=m:=by show(n*16+m)%16=m;omega
 simp_all
variable [Env] {W:List Nat} {e:Nat}
def bj (W:List Nat) (t t':PT Y):Prop:=t'.m=t.m/\t'.l=t.l/\∀k,k<256->W.elem k=false->lf t'.s k=lf t.s k
theorem bj.refl (W:List Nat) (t:PT Y):bj W t t:=⟨Z,Z,fun _ _ _=>Z⟩
theorem bj.put {W:List Nat} {t t':PT Y} {w:Nat} {o:Option Y} (hw:(W.elem w && Nat.blt w 256)=true) (h:bj W t t'):bj W t (t'.put o w):=by
 obtain⟨h1,u,h3⟩:=h;rw[bA_,tV] at hw;obtain⟨s,m,l⟩:=t';rw[PT.w8 _ _ _ _ hw.2];refine⟨h1,u,fun k hk hn=>?_⟩;show lf (tG s w o) k=_;rw[mG _ _ _ _ hw.2 hk,if_neg (fun e=>by simp_all)];exact h3 k hk hn
theorem bj.dI {t t':PT Y} {w:Nat} (hw:Nat.blt w 256=true) (h:bj (w::W) t t'):∃o,bj W (t.put o w) t':=by
 rw[tV] at hw;obtain⟨h1,u,h3⟩:=h;refine⟨t'.get w,?_⟩;obtain⟨s,m,l⟩:=t;rw[PT.w8 _ _ _ _ hw,PT.sG _ hw];refine⟨h1,u,fun k hk hn=>?_⟩
 grind [mG]
theorem bj.mZ {t t':PT Y} {a b c d:Nat} (hw:(Nat.blt a 256 && (Nat.blt b 256 && (Nat.blt c 256 && Nat.blt d 256)))=true) (h:bj (a::b::c::d::W) t t'):∃u A C E,bj W ((((t.put u a).put A b).put C c).put E d) t':=by
 simp only[bA_] at hw;obtain⟨h1,F,h3,I⟩:=hw;obtain⟨u,h⟩:=h.dI h1;obtain⟨A,h⟩:=h.dI F;obtain⟨C,h⟩:=h.dI h3;obtain⟨E,h⟩:=h.dI I
 grind
theorem bj.cH {t t':PT Y} {a b c d f g i:Nat} (hw:(Nat.blt a 256 && (Nat.blt b 256 && (Nat.blt c 256 && Nat.blt d 256)))=true) (u:(Nat.blt e 256 && (Nat.blt f 256 && (Nat.blt g 256 && Nat.blt i 256)))=true) (h:bj (a::b::c::d::e::f::g::i::W) t t'):
  ∃A C E F I K L M,bj W ((((((((t.put A a).put C b).put E c).put F d).put I e).put K f).put L g).put M i) t':=by
 obtain⟨A,C,E,F,h⟩:=h.mZ hw;obtain⟨I,K,L,M,h⟩:=h.mZ u
 grind
theorem bj.nil {t t':PT Y} (h:bj [] t t'):t'=t:=by
 obtain⟨s,m,l⟩:=t;obtain⟨s',m',l'⟩:=t';obtain⟨h1,h2,h3⟩:=h;have:s'=s:=jD.same fun k hk=>h3 k hk Z
 simp_all
section
variable {P:Program} {G:Cx} {n:Nat} {t:PT Y} {V:D} {Q:Ex->PT Y->D->Prop}
theorem bq {b:Code} (W:List Nat) (I:Nat->PT Y->D->Prop) (j:Nat) (u:I j t V) (step:∀j t' V,bj W t t'->I j t' V->Ev P G b n t' V (zF (fun j t'' V=>bj W t t''/\I j t'' V) j Q)):Ev P G (.loop b) n t V Q:=
 NA (fun j t'' V=>bj W t t''/\I j t'' V) j ⟨bj.refl _ _,u⟩ fun j t' V h=>step j t' V h.1 h.2
end
theorem gL {a b:Nat}:cW (.ofNat a) (.ofNat b)=decide (a<b):=by
 show Nat.ble (Nat.succ a) b=_;rw[zd_,nE_,decide_eq_true_iff];rfl
theorem gd {a b:Nat}:bD (.ofNat a) (.ofNat b)=decide (a=b):=by
 show Nat.beq a b=_;rw[zd_,Nat.beq_eq,decide_eq_true_iff]
theorem a6 {i:Nat} (h:i<9223372036854775807):wr .i64 (Int.add (.ofNat i) (.ofNat 1))= .ofNat (i+1):=by
 show(bif Nat.ble (i+1) 9223372036854775807 then _ else _)=_
 grind [nE_]
end Go.Ev
namespace Go.Ev
variable [Env] {α:Type} {cs vs:List Y} {la:List α} {e id j:Nat} {io xo:Operand} {ob:cd} {R:α->List Y->Prop}
section
variable {P:Program} {G:Cx} {n:Nat} {t:PT Y} {V:D} {K:KP} {L:Own} {Q:Ex->PT Y->D->Prop} {ops:Array Oper} {o:Oper} {i:Nat} {rc:List Nat} {l:List (Nat×List Nat)}
theorem np {v:Y} {t':PT Y} {V':D} (hi:ops[i]? =some o) (hw:bH ops t o=some true) (hv:dM P G (bA G t) V o.op= .val v V') (hp:dA t n o.dst v=some t') (h:dw P G ops t' V' rc=true/\cS P G ops n l t' V' Q):cS P G ops n ((i,rc)::l) t V Q:=by
 obtain⟨hs,K,e,u,A,h1,C⟩:=h;refine⟨K,e,u,A,fun d k hk=>?_,C⟩
 show(match ops[i]? with
  | some o=>iS P G (ed P G k) false ops n o t V (fun t' V'=>bif dw P G ops t' V' rc then ki P G (ed P G k) ops n d l t' V' else .err 86)
  | none=>.err 87)=_
 grind [iS,lr]
theorem jG {t':PT Y} {V':D} (hi:ops[i]? =some o) (hw:bH ops t o=some true) (hv:dM P G (bA G t) V o.op= .skip V') (hp:dA t n o.dst unit=some t') (h:dw P G ops t' V' rc=true/\cS P G ops n l t' V' Q):cS P G ops n ((i,rc)::l) t V Q:=by
 obtain⟨hs,K,e,u,A,h1,C⟩:=h;refine⟨K,e,u,A,fun d k hk=>?_,C⟩
 show(match ops[i]? with
  | some o=>iS P G (ed P G k) false ops n o t V (fun t' V'=>bif dw P G ops t' V' rc then ki P G (ed P G k) ops n d l t' V' else .err 86)
  | none=>.err 87)=_
 grind [iS,lr]
theorem aY:dw P G ops t V []=true:=rfl
theorem bx {l:List Nat} (h:kL P G ops t V j=true) (hl:dw P G ops t V l=true):dw P G ops t V (j::l)=true:=by
 grind [dw]
theorem bC {k:Nat} {v:Y} (hi:ops[i]? =some o) (hw:bH ops t o=some true) (hd:o.dst=some k) (hg:t.get k=some v) (hk:kindOf P o.op= .read) (h:dM P G (bA G t) V o.op= .val v V) (hb:dV v v=true):kL P G ops t V i=true:=by
 have hr:gG P (bA G t) V o.op=some v:=by
  grind [dM]
 unfold kL
 simp_all
theorem Mj {k b:Nat} (hi:ops[i]? =some o) (hw:bH ops t o=some true) (hd:o.dst=some k) (hg:t.get k=some (.ptr b 0)) (hk:kindOf P o.op= .alloc) (ha:fV P (bA G t) o.op=some (.row cs e false,.ptr)) (hm:V.m.get b=some (.row cs e false)) (hb:dV.beqL cs cs=true):kL P G ops t V i=true:=by
 unfold kL
 simp_all
theorem im (k:IntKind) (n:Int):dV.pj (.int k n) (.int k n)=true:=by
 show(uj k k && bD n n)=true;rw[dS];cases k<;>simp[uj]
theorem bG.pj {α:Type} {K:KP} {m:Nat} {R:α->List Y->Prop} {l:List α} {v:Y} (h:bG K m R l v):dV.pj v v=true:=by
 rcases h with ⟨_,rfl⟩ | ⟨b,off,c,cells,e,ro,rfl,hc,_⟩
 ·rfl
 show(dV.beqP b b && Nat.beq off off && Nat.beq l.length l.length && dV.beqC c c)=true;have hp:dV.beqP b b=true:=Nat.beq_refl b
 have u:dV.beqC c c=true:=by
  rcases hc with rfl | ⟨n,rfl,_⟩
  ·exact Nat.beq_refl m
  exact Nat.beq_refl n
 simp[hp,u]
theorem qg:dV.beqL [] []=true:=rfl
theorem ey {v:Y} (h:dV.pj v v=true) (hs:dV.beqL vs vs=true):dV.beqL (v::vs) (v::vs)=true:=by
 grind [dV.beqL]
theorem qe (h:dV.beqL vs vs=true):dV (.agg vs) (.agg vs)=true:=h
theorem gO {c:Bool} {t':Bool->PT Y} (u:ops[i]? =some o) (hw:bH ops t o=some true) (hv:dM P G (bA G t) V o.op= .val (.bool c) V) (hp:∀b,dA t n o.dst (.bool b)=some (t' b))
  (h1:c=true->cS P G ops n l (t' true) V Q) (h0:c=false->cS P G ops n l (t' false) V Q):cS P G ops n ((i,[])::l) t V Q:=by
 refine ah u hw hv (hp c) ?_;cases c with
 | true=>exact h1 Z
 | false=>exact h0 Z
theorem w6 (A:H V K L) {t':Nat->PT Y} (u:ops[i]? =some o) (hw:bH ops t o=some true) (hv:dM P G (bA G t) V o.op= .val (.ptr V.next 0) (V.alloc ob)) (hp:∀b,dA t n o.dst (.ptr b 0)=some (t' b))
  (h:∀(V':D) (b:Nat),H V' K ((b,ob)::L)->cS P G ops n l (t' b) V' Q):cS P G ops n ((i,[])::l) t V Q:=
 ah u hw hv (hp _) (h _ _<|A.alloc ob)
theorem nN (A:H V K L) {k c:Nat} {t':Nat->PT Y} (u:ops[i]? =some o) (hw:bH ops t o=some true) (hv:dM P G (bA G t) V o.op= .val (.slice V.next 0 k (.known c)) (V.alloc ob)) (hp:∀b,dA t n o.dst (.slice b 0 k (.known c))=some (t' b))
  (h:∀(V':D) (b:Nat),H V' K ((b,ob)::L)->cS P G ops n l (t' b) V' Q):cS P G ops n ((i,[])::l) t V Q:=
 ah u hw hv (hp _) (h _ _<|A.alloc ob)
theorem pB {b:Nat} {ob':cd} {t':PT Y} (A:H V K ((b,ob)::L)) (u:ops[i]? =some o) (hw:bH ops t o=some true) (hv:dM P G (bA G t) V o.op= .skip (V.setObj b ob')) (hp:dA t n o.dst unit=some t')
  (h:∀V',H V' K ((b,ob')::L)->(dw P G ops t' V' rc=true/\cS P G ops n l t' V' Q)):cS P G ops n ((i,rc)::l) t V Q:=jG u hw hv hp (h _<|A.nU ob')
theorem HO {b:Nat} {ob':cd} {x:Nat×cd} {t':PT Y} (A:H V K (x::(b,ob)::L)) (u:ops[i]? =some o) (hw:bH ops t o=some true) (hv:dM P G (bA G t) V o.op= .skip (V.setObj b ob')) (hp:dA t n o.dst unit=some t')
  (h:∀V',H V' K (x::(b,ob')::L)->(dw P G ops t' V' rc=true/\cS P G ops n l t' V' Q)):cS P G ops n ((i,rc)::l) t V Q:=jG u hw hv hp (h _<|A.R9 ob')
theorem OK {b:Nat} {ob':cd} {x y:Nat×cd} {t':PT Y} (A:H V K (x::y::(b,ob)::L)) (u:ops[i]? =some o) (hw:bH ops t o=some true) (hv:dM P G (bA G t) V o.op= .skip (V.setObj b ob')) (hp:dA t n o.dst unit=some t')
  (h:∀V',H V' K (x::y::(b,ob')::L)->(dw P G ops t' V' rc=true/\cS P G ops n l t' V' Q)):cS P G ops n ((i,rc)::l) t V Q:=jG u hw hv hp (h _<|A.VQ ob')
theorem Uj {b:Nat} {ob':cd} {x y z:Nat×cd} {t':PT Y} (A:H V K (x::y::z::(b,ob)::L)) (u:ops[i]? =some o) (hw:bH ops t o=some true) (hv:dM P G (bA G t) V o.op= .skip (V.setObj b ob')) (hp:dA t n o.dst unit=some t')
  (h:∀V',H V' K (x::y::z::(b,ob')::L)->(dw P G ops t' V' rc=true/\cS P G ops n l t' V' Q)):cS P G ops n ((i,rc)::l) t V Q:=jG u hw hv hp (h _<|A.VS ob')
theorem dK {m:Nat} {v:Y} {ix:Nat} {x:α} {ty e:TypeId} {k:IntKind} {t':Y->PT Y} (E:bG K m R la v) (hi:la[ix]? =some x) (u:ops[i]? =some o) (hw:bH ops t o=some true) (F:o.op= .indexAddr ty xo io)
  (I:P.underlying ty=some (.slice e)) (hj:(P.info? e).map (·.size)=some m) (hx:bA G t xo=some v) (A:bA G t io=some (.int k (.ofNat ix))) (hp:∀p,dA t n o.dst p=some (t' p))
  (h:∀p vs,eT K p vs->vs.length=m->R x vs->cS P G ops n l (t' p) V Q):cS P G ops n ((i,[])::l) t V Q:=by
 obtain⟨b,off,c,vs,rfl,C,h1,M,h3⟩:=E.at hi;refine ah u hw ?_ (hp _)<|h _ vs h1 M h3;rw[F];exact dP I hj hx A C
theorem fb {p:Y} {s:TypeId} {fi k:Nat} {t':Y->PT Y} (u:eT K p vs) (A:ops[i]? =some o) (hw:bH ops t o=some true) (C:o.op= .fieldAddr s xo fi) (hx:bA G t xo=some p) (hk:ow P s fi=some k) (hl:k<=vs.length) (hp:∀p,dA t n o.dst p=some (t' p))
  (h:∀p',eT K p' (vs.drop k)->cS P G ops n l (t' p') V Q):cS P G ops n ((i,[])::l) t V Q:=by
 obtain⟨b,off,cells,e,ro,rfl,E,h3,h4⟩:=u;refine ah A hw ?_ (hp _)<|h _ ⟨b,off+k,cells,e,ro,Z,E,by grind,?_⟩
 ·rw[C];exact ay hx hk
 grind [List.drop_take,zl_]
theorem fC {f:Nat} {args:List Y} {t':Y->PT Y} {R:Y->D->Prop} (u:ops[i]? =some o) (hw:bH ops t o=some true) (hv:dM P G (bA G t) V o.op= .enter f args V) (hp:∀v,dA t n o.dst v=some (t' v))
  (hc:aW P G f args V R) (h:∀v V',R v V'->(dw P G ops (t' v) V' rc=true/\cS P G ops n l (t' v) V' Q)):cS P G ops n ((i,rc)::l) t V Q:=by
 refine EP u hw hv<|hc.mono fun v V' hr=>?_
 simp_all
theorem dO {f:Nat} {args:List Y} {u:Y} {t':Y->PT Y} (A:ops[i]? =some o) (hw:bH ops t o=some true) (hv:dM P G (bA G t) V o.op= .enter f args V) (hp:∀v,dA t n o.dst v=some (t' v))
  (hc:aW P G f args V fun v V'=>v=u/\H V' K L) (h:∀V',H V' K L->(dw P G ops (t' u) V' rc=true/\cS P G ops n l (t' u) V' Q)):cS P G ops n ((i,rc)::l) t V Q:=
 fC A hw hv hp hc fun v V' ⟨hv,O⟩=>by simp_all
theorem aU {l:List (Nat×List Nat)} (hf:vM P ops=true) (hl:lS P ops=l) (h:cS P G ops n l t V Q):Ev P G (.region id ops true) n t V Q:=by
 subst hl;exact yQ hf h
end
end Go.Ev
namespace Go.Ev
variable [Env]
section
variable {P:Program} {G:Cx} {n:Nat} {t:PT Y} {V:D} {Q:Ex->PT Y->D->Prop} {ops:Array Oper} {o:Oper} {l:List Oper}
end
end Go.Ev
namespace Go.Ev
variable [Env]
variable {α:Type} {parts:Array (Nat×Operand)} {places:List (Nat×Nat)} {W:List Nat} {ca fi vs:List Y} {la:List α} {id:Nat} {io xo:Operand} {ob:cd} {R:α->List Y->Prop}
section
variable {P:Program} {G:Cx} {n:Nat} {V:D} {Q:Ex->PT Y->D->Prop} {ops:Array Oper}
def H0 (n:Nat) (t:PT Y) (d:Option Nat) (v:Option Y):Option (PT Y):=match v with | some v=>dA t n d v | none=>none
def Ng (P:Program) (k:Bool) (o:BinOp) (ty:TypeId) (a b:Option Y):Option Y:=match a with | some a=>(match b with | some b=>pV P k o ty a b | none=>none) | none=>none
def FE (c a b:Option Y):Option Y:=match c with | some (.bool q)=>if q then a else b | _=>none
def T6 (P:Program) (G:Cx) (t:PT Y) (op:Op):Option Y:=
 match op with
 | .move x=>bA G t x
 | .assign x=>bA G t x
 | .pick c a b=>FE (bA G t c) (bA G t a) (bA G t b)
 | .binOp o ty x y _=>Ng P (BS x || BS y) o ty (bA G t x) (bA G t y)
 | .extract x i=>dH P (bA G t) (.extract x i)
 | .makeFunc x y z=>dH P (bA G t) (.makeFunc x y z)
 | .unOp x y z=>dH P (bA G t) (.unOp x y z)
 | .field x y z=>dH P (bA G t) (.field x y z)
 | _=>none
theorem zL {t:PT Y} {op:Op} {v:Y} (h:T6 P G t op=some v):dM P G (bA G t) V op= .val v V:=by
 unfold T6 at h;split at h
 ·exact an h
 ·exact al h
 ·unfold FE at h;split at h
  ·rename_i q hc;exact aR hc h
  cases h
 ·unfold Ng at h;split at h
  ·rename_i a u;split at h
   ·rename_i b hb;exact aB u hb h
   cases h
  cases h
 ·exact bK Z h
 ·exact bK Z h
 ·exact bK Z h
 ·exact bK Z h
 cases h
def mT (P:Program) (G:Cx) (ops:Array Oper) (n:Nat) (t:PT Y) (o:Oper):Option (PT Y):=
 match bH ops t o with
 | some w=>bif w then H0 n t o.dst (T6 P G t o.op) else dA t n o.dst unit
 | none=>none
theorem uU {t t':PT Y} {o:Oper} {l:List Oper} (h:mT P G ops n t o=some t') (hh:bL P G ops n l t' V Q):bL P G ops n (o::l) t V Q:=by
 unfold mT at h;split at h
 ·rename_i w hw;cases w with
  | true=>
   simp only[cond_true] at h;unfold H0 at h;split at h
   ·rename_i v hv;exact S hw (zL hv) h hh
   cases h
  | false=>exact ak hw h hh
 cases h
def quick (P:Program) (G:Cx) (ops:Array Oper) (n:Nat):Nat->List Oper->PT Y->Option (List Oper×PT Y)
 | 0,l,t=>some (l,t)
 | k+1,l,t=>match l with
  | o::l=>match mT P G ops n t o with
   | some t'=>quick P G ops n k l t'
   | none=>none
  | []=>none
theorem vQ (k:Nat) {l l':List Oper} {t t':PT Y} (h:quick P G ops n k l t=some (l',t')) (hh:bL P G ops n l' t' V Q):bL P G ops n l t V Q:=by
 induction k generalizing l t with
 | zero=>simp only[quick,oJ_,Prod.mk.injEq] at h;obtain⟨rfl,rfl⟩:=h;exact hh
 | succ k ih=>
  unfold quick at h;split at h
  ·split at h
   ·rename_i t1 h1;exact uU h1<|ih h
   cases h
  cases h
def pD (P:Program) (G:Cx) (ops:Array Oper) (n:Nat):Nat->List (Nat×List Nat)->PT Y->Option (List (Nat×List Nat)×PT Y)
 | 0,l,t=>some (l,t)
 | k+1,l,t=>match l with
  | (i,[])::l=>match ops[i]? with
   | some o=>match mT P G ops n t o with
    | some t'=>pD P G ops n k l t'
    | none=>none
   | none=>none
  | _=>none
theorem uT {t t':PT Y} {i:Nat} {o:Oper} {l:List (Nat×List Nat)} (hi:ops[i]? =some o) (h:mT P G ops n t o=some t') (hh:cS P G ops n l t' V Q):cS P G ops n ((i,[])::l) t V Q:=by
 unfold mT at h;split at h
 ·rename_i w hw;cases w with
  | true=>
   simp only[cond_true] at h;unfold H0 at h;split at h
   ·rename_i v hv;exact ah hi hw (zL hv) h hh
   cases h
  | false=>exact au hi hw h hh
 cases h
theorem wQ (k:Nat) {l l':List (Nat×List Nat)} {t t':PT Y} (h:pD P G ops n k l t=some (l',t')) (hh:cS P G ops n l' t' V Q):cS P G ops n l t V Q:=by
 induction k generalizing l t with
 | zero=>simp only[pD,oJ_,Prod.mk.injEq] at h;obtain⟨rfl,rfl⟩:=h;exact hh
 | succ k ih=>
  unfold pD at h;split at h
  ·split at h
   ·rename_i o u;split at h
    ·rename_i t1 h1;exact uT u h1<|ih h
    cases h
   cases h
  cases h
section
variable {ev:Operand->Option Y} {K:KP} {L:Own}
theorem Yv (k:Nat) {s:TypeId} {x:Operand} {i:Nat} {b:Pos} {off:Nat} (hx:ev x=some (.ptr b off)) (hk:ow P s i=some k:=by kernel_rfl):dM P G ev V (.fieldAddr s x i)= .val (.ptr b (off+k)) V:=ay hx hk
theorem Yu {c:Call} {f:Operand} {g:Nat} {args:List Y} (hc:c.callee= .value f) (hf:ev f=some (.func g fi ca)) (u:mB ev c.args.toList=some args) (A:lz P g=true:=by kernel_rfl):dM P G ev V (.call c)= .enter g (fi++(args++ca)) V:=aP hc hf u A
theorem Yw {t:TypeId} {x:Operand} {b:Pos} {off:Nat} {cells:List Y} {e:Nat} {ro:Bool} {v:Y} (hx:ev x=some (.ptr b off)) (hb:V.m.get b=some (.row cells e ro)) (hv:nth cells off=some v) (u:dE P t=some none:=by kernel_rfl):dM P G ev V (.load t x)= .val v V:=av hx hb u hv
theorem SG {t:TypeId} {x:Operand} {b:Pos} {off n:Nat} {cells:List Y} {e:Nat} {ro:Bool} (hx:ev x=some (.ptr b off)) (hb:V.m.get b=some (.row cells e ro)) (hv:(cells.drop off).take n=vs) (u:dE P t=some (some n):=by kernel_rfl) (hl:off+n<=cells.length:=by exact Nat.le_of_ble_eq_true Z):dM P G ev V (.load t x)= .val (.agg vs) V:=bh hx hb u hl hv
theorem UM {t:TypeId} {m:Nat} {x y:Operand} {b:Pos} {off:Nat} {v:Y} {cs cells cells':List Y} {e:Nat} (hx:ev x=some (.ptr b off)) (hy:ev y=some v) (hc:cE v=some cs) (hb:V.m.get b=some (.row cells e false)) (hl:cs.length=m) (u:cg cs=true) (A:dp cs cells off=cells')
  (hj:(P.info? t).map (·.size)=some m:=by kernel_rfl) (hle:off+m<=cells.length:=by exact Nat.le_of_ble_eq_true Z):dM P G ev V (.store t x y)= .skip (V.setObj b (.row cells' e false)):=aL hx hy hc hb hj hl hle u A
theorem Yt {t:TypeId} {zero cs:List Y} (hf:ka (nth places) ev parts.toList zero=some cs) (hp:placesOf P t=some places:=by kernel_rfl) (u:(fx P t).bind cE=some zero:=by kernel_rfl) (hu:dE P t=some (some zero.length):=by kernel_rfl) (A:(structOf P t).isSome=true:=by kernel_rfl):dM P G ev V (.build t parts)= .val (.agg cs) V:=cY hp u hu hf A
theorem Yy {e:TypeId} {cs:List Y} (u:(fx P e).bind cE=some cs:=by kernel_rfl) (A:uQ P e=false:=by kernel_rfl):dM P G ev V (.alloc e)= .val (.ptr V.next 0) (V.alloc (.row cs e false)):=cA u A
theorem Yx {m:Nat} {l:List α} {c:Call} {t e:TypeId} {x:Operand} {v:Y} (u:bG K m R l v) (hc:c.callee= .builtin .len) (A:c.argTypes[0]? =some t) (C:c.args.toList= [x]) (hx:ev x=some v) (hu:P.underlying t=some (.slice e):=by kernel_rfl):dM P G ev V (.call c)= .val (.int .i64 (.ofNat l.length)) V:=aZ u hc A C hu hx
theorem Yz {t:TypeId} {x:Operand} {p v:Y} (u:H V K L) (hp:eT K p vs) (hx:ev x=some p) (hv:vs[0]? =some v) (A:dE P t=some none:=by kernel_rfl):dM P G ev V (.load t x)= .val v V:=aO u hp hx A hv
theorem Yp {n:Nat} {t:PT Y} {o:Oper} {l:List Oper} {m:Nat} {v:Y} {i:Nat} {x:α} {ty e:TypeId} {k:IntKind} {t':Y->PT Y} (A:bG K m R la v) (hi:la[i]? =some x) (hw:bH ops t o=some true) (C:o.op= .indexAddr ty xo io)
  (hx:bA G t xo=some v) (u:bA G t io=some (.int k (.ofNat i)))
  (h:∀p vs,eT K p vs->vs.length=m->R x vs->bL P G ops n l (t' p) V Q) (E:P.underlying ty=some (.slice e):=by kernel_rfl) (hj:(P.info? e).map (·.size)=some m:=by kernel_rfl) (hp:∀p,dA t n o.dst p=some (t' p):=by exact fun _=>Z):bL P G ops n (o::l) t V Q:=bX A hi hw C E hj hx u hp h
theorem Yq {n i:Nat} {t:PT Y} {o:Oper} {l:List (Nat×List Nat)} {m:Nat} {v:Y} {ix:Nat} {x:α} {ty e:TypeId} {k:IntKind} {t':Y->PT Y} (C:bG K m R la v) (hi:la[ix]? =some x) (u:ops[i]? =some o) (hw:bH ops t o=some true) (E:o.op= .indexAddr ty xo io)
  (hx:bA G t xo=some v) (A:bA G t io=some (.int k (.ofNat ix)))
  (h:∀p vs,eT K p vs->vs.length=m->R x vs->cS P G ops n l (t' p) V Q) (F:P.underlying ty=some (.slice e):=by kernel_rfl) (hj:(P.info? e).map (·.size)=some m:=by kernel_rfl) (hp:∀p,dA t n o.dst p=some (t' p):=by exact fun _=>Z):cS P G ops n ((i,[])::l) t V Q:=dK C hi u hw E F hj hx A hp h
end
theorem bj.WW {t t':PT Y} {a b c d e f g i a' b' c' d' e' f' g' i':Nat} (hw:(Nat.blt a 256 && (Nat.blt b 256 && (Nat.blt c 256 && Nat.blt d 256)))=true) (u:(Nat.blt e 256 && (Nat.blt f 256 && (Nat.blt g 256 && Nat.blt i 256)))=true) (A:(Nat.blt a' 256 && (Nat.blt b' 256 && (Nat.blt c' 256 && Nat.blt d' 256)))=true) (C:(Nat.blt e' 256 && (Nat.blt f' 256 && (Nat.blt g' 256 && Nat.blt i' 256)))=true) (h:bj (a::b::c::d::e::f::g::i::a'::b'::c'::d'::e'::f'::g'::i'::W) t t'):
  ∃E F I M N R T X u1 u2 u3 u4 u5 u6 u7 u8,bj W ((((((((((((((((t.put E a).put F b).put I c).put M d).put N e).put R f).put T g).put X i).put u1 a').put u2 b').put u3 c').put u4 d').put u5 e').put u6 f').put u7 g').put u8 i') t':=by
 obtain⟨E,F,I,M,N,R,T,X,h⟩:=h.cH hw u;obtain⟨u1,u2,u3,u4,u5,u6,u7,u8,h⟩:=h.cH A C;exact⟨E,F,I,M,N,R,T,X,u1,u2,u3,u4,u5,u6,u7,u8,h⟩
theorem lb {a b:Nat} (h:Nat.ble a b=true):a<=b:=Nat.le_of_ble_eq_true h
theorem nT {b:Code} {t:PT Y} {Q:Ex->PT Y->D->Prop} (h:Ev P G b n t V Q):bL P G ops n [] t V (dW P G n b Q):=ae (ad h)
theorem nS {os:Array Oper} {b:Code} {t:PT Y} {Q:Ex->PT Y->D->Prop} (u:mJ os.toList=false) (h:bL P G os n os.toList t V (dW P G n b Q)):bL P G ops n [] t V (dW P G n (.seq (.region id os false) b) Q):=ae (ad<|ai<|af u h)
theorem YA {K:KP} {L:Own} {ev:Operand->Option Y} {t:TypeId} {x:Operand} {p:Y} {n:Nat} (u:H V K L) (hp:eT K p vs) (hx:ev x=some p) (hv:vs.length=n) (A:dE P t=some (some n):=by kernel_rfl):dM P G ev V (.load t x)= .val (.agg vs) V:=cm u hp hx A hv
theorem kv {K:KP} {L:Own} {n:Nat} {t:PT Y} {o:Oper} {l:List Oper} {f:Nat} {args:List Y} {u:Y} {t':Y->PT Y} (hw:bH ops t o=some true) (hv:dM P G (bA G t) V o.op= .enter f args V)
  (hc:aW P G f args V fun v V'=>v=u/\H V' K L) (h:∀V',H V' K L->bL P G ops n l (t' u) V' Q) (hp:∀v,dA t n o.dst v=some (t' v):=by exact fun _=>Z):bL P G ops n (o::l) t V Q:=bk hw hv hp hc h
theorem kp {K:KP} {L:Own} {n:Nat} {t:PT Y} {o:Oper} {l:List Oper} (u:H V K L) {t':Nat->PT Y} (hw:bH ops t o=some true) (hv:dM P G (bA G t) V o.op= .val (.ptr V.next 0) (V.alloc ob))
  (h:∀(V':D) (b:Nat),H V' K ((b,ob)::L)->bL P G ops n l (t' b) V' Q) (hp:∀b,dA t n o.dst (.ptr b 0)=some (t' b):=by exact fun _=>Z):bL P G ops n (o::l) t V Q:=br u hw hv hp h
abbrev iZ:Y:=.int .i64 0
theorem oP {t t':PT Y} {w:Nat} {o:Option Y} (hw:(W.elem w && Nat.blt w 256)=true) (h:bj W t t'):bj W t (t'.put o w):=h.put hw
theorem oR (W:List Nat) (t:PT Y):bj W t t:=.refl W t
theorem ct (a b:α):(bif true then a else b)=a:=rfl
theorem cf (a b:α):(bif false then a else b)=b:=rfl
theorem cI {a b:Int} (h:a=b):some (Y.int .i64 a)=some (Y.int .i64 b):=congrArg (fun z=>some (Y.int .i64 z)) h
theorem cB {a b:Bool} (h:a=b):Y.bool a=Y.bool b:=congrArg Y.bool h
theorem cJ {a b:Int} (h:a=b):Y.int .i64 a=Y.int .i64 b:=congrArg (Y.int .i64) h
theorem H.g0 {K:KP} {L:Own} {b:Nat} {o:cd} (h:H V K ((b,o)::L)):V.m.get b=some o:=h.get 0 Z
theorem H.g1 {K:KP} {L:Own} {e:Nat×cd} {b:Nat} {o:cd} (h:H V K (e::(b,o)::L)):V.m.get b=some o:=h.get 1 Z
theorem ky {n:Nat} {t:PT Y} {o:Oper} {l:List Oper} {c:Bool} {t':Bool->PT Y} (hw:bH ops t o=some true) (hv:dM P G (bA G t) V o.op= .val (.bool c) V)
  (h1:c=true->bL P G ops n l (t' true) V Q) (h0:c=false->bL P G ops n l (t' false) V Q) (hp:∀b,dA t n o.dst (.bool b)=some (t' b):=by exact fun _=>Z):bL P G ops n (o::l) t V Q:=a7 hw hv hp h1 h0
end
section
variable {P:Program} {G:Cx} {V:D} {Q:Ex->PT Y->D->Prop} {ops:Array Oper} {ev:Operand->Option Y} {K:KP} {L:Own} {t:TypeId} {x y:Operand} {p:Pos} {i:Nat} {cells cs:List Y} {e:Nat} {ro:Bool} {v a b c d f g:Y}
theorem YE (hx:ev x=some (.ptr p i)) (hb:V.m.get p=some (.row cells e ro)) (hv:(cells.drop i).take 2= [a,b]) (u:dE P t=some (some 2):=by kernel_rfl) (hl:i+2<=cells.length:=by exact Nat.le_of_ble_eq_true Z):dM P G ev V (.load t x)= .val (.agg [a,b]) V:=SG hx hb hv u hl
theorem YF (hx:ev x=some (.ptr p i)) (hb:V.m.get p=some (.row cells e ro)) (hv:(cells.drop i).take 4= [a,b,c,d]) (u:dE P t=some (some 4):=by kernel_rfl) (hl:i+4<=cells.length:=by exact Nat.le_of_ble_eq_true Z):dM P G ev V (.load t x)= .val (.agg [a,b,c,d]) V:=SG hx hb hv u hl
theorem YG (hx:ev x=some (.ptr p i)) (hb:V.m.get p=some (.row cells e ro)) (hv:(cells.drop i).take 5= [a,b,c,d,f]) (u:dE P t=some (some 5):=by kernel_rfl) (hl:i+5<=cells.length:=by exact Nat.le_of_ble_eq_true Z):dM P G ev V (.load t x)= .val (.agg [a,b,c,d,f]) V:=SG hx hb hv u hl
theorem YH (hx:ev x=some (.ptr p i)) (hb:V.m.get p=some (.row cells e ro)) (hv:(cells.drop i).take 6= [a,b,c,d,f,g]) (u:dE P t=some (some 6):=by kernel_rfl) (hl:i+6<=cells.length:=by exact Nat.le_of_ble_eq_true Z):dM P G ev V (.load t x)= .val (.agg [a,b,c,d,f,g]) V:=SG hx hb hv u hl
theorem YB (hx:ev x=some (.ptr p i)) (hy:ev y=some v) (hc:cE v=some cs) (hb:V.m.get p=some (.row cells e false)) (u:dp cs cells i= [a,b]) (hl:cs.length=2:=by rfl) (hf:cg cs=true:=by rfl) (hj:(P.info? t).map (·.size)=some 2:=by kernel_rfl) (hle:i+2<=cells.length:=by exact Nat.le_of_ble_eq_true Z):dM P G ev V (.store t x y)= .skip (V.setObj p (.row [a,b] e false)):=UM hx hy hc hb hl hf u hj hle
theorem YC (hx:ev x=some (.ptr p i)) (hy:ev y=some v) (hc:cE v=some cs) (hb:V.m.get p=some (.row cells e false)) (u:dp cs cells i= [a,b,c]) (hl:cs.length=3:=by rfl) (hf:cg cs=true:=by rfl) (hj:(P.info? t).map (·.size)=some 3:=by kernel_rfl) (hle:i+3<=cells.length:=by exact Nat.le_of_ble_eq_true Z):dM P G ev V (.store t x y)= .skip (V.setObj p (.row [a,b,c] e false)):=UM hx hy hc hb hl hf u hj hle
theorem YD (hx:ev x=some (.ptr p i)) (hy:ev y=some v) (hc:cE v=some cs) (hb:V.m.get p=some (.row cells e false)) (u:dp cs cells i= [a,b,c,d,f]) (hl:cs.length=5:=by rfl) (hf:cg cs=true:=by rfl) (hj:(P.info? t).map (·.size)=some 5:=by kernel_rfl) (hle:i+5<=cells.length:=by exact Nat.le_of_ble_eq_true Z):dM P G ev V (.store t x y)= .skip (V.setObj p (.row [a,b,c,d,f] e false)):=UM hx hy hc hb hl hf u hj hle
variable {n q:Nat} {z:PT Y} {o:Oper} {l:List Oper} {args:List Y}
theorem kw {h':Y->PT Y} {R:Y->D->Prop} (hv:dM P G (bA G z) V o.op= .enter q args V) (hc:aW P G q args V R) (h:∀v V',R v V'->bL P G ops n l (h' v) V' Q) (hw:bH ops z o=some true:=by rfl) (hp:∀v,dA z n o.dst v=some (h' v):=by exact fun _=>Z):bL P G ops n (o::l) z V Q:=cq hw hv hp hc h
theorem kx {u:Y} {h':Y->PT Y} (hv:dM P G (bA G z) V o.op= .enter q args V) (hc:aW P G q args V fun v V'=>v=u/\H V' K L) (h:∀V',H V' K L->bL P G ops n l (h' u) V' Q) (hw:bH ops z o=some true:=by rfl) (hp:∀v,dA z n o.dst v=some (h' v):=by exact fun _=>Z):bL P G ops n (o::l) z V Q:=bk hw hv hp hc h
theorem ks {m:cd} {m':cd} {h':PT Y} (u:H V K ((q,m)::L)) (hv:dM P G (bA G z) V o.op= .skip (V.setObj q m')) (h:∀V',H V' K ((q,m')::L)->bL P G ops n l h' V' Q) (hw:bH ops z o=some true:=by rfl) (hp:dA z n o.dst unit=some h':=by rfl):bL P G ops n (o::l) z V Q:=bO u hw hv hp h
theorem kb {m:cd} {h':Nat->PT Y} (u:H V K L) (hv:dM P G (bA G z) V o.op= .val (.ptr V.next 0) (V.alloc m)) (h:∀(V':D) (b:Nat),H V' K ((b,m)::L)->bL P G ops n l (h' b) V' Q) (hw:bH ops z o=some true:=by rfl) (hp:∀b,dA z n o.dst (.ptr b 0)=some (h' b):=by exact fun _=>Z):bL P G ops n (o::l) z V Q:=br u hw hv hp h
end
abbrev nI (n:Nat):Y:=.int .i64 (.ofNat n)
abbrev EC:=aW Go.Proofs.Tryz.prog
abbrev Ca (G:Cx) (K:KP) (L:Own) (f:Nat) (a:List Y) (V:D) (x:Y):Prop:=EC G f a V fun v V'=>v=x/\H V' K L
section
variable {P:Program} {G:Cx} {n:Nat} {t:PT Y} {V:D} {Q:Ex->PT Y->D->Prop}
def WN (W:List Nat) (t:PT Y) (I:PT Y->D->Prop) (e:Ex) (t':PT Y) (V':D):Prop:=e= .normal/\bj W t t'/\I t' V'
theorem Wb {a b:Code} (W:List Nat) (I:PT Y->D->Prop) (h1:Ev P G a n t V (WN W t I)) (u:∀t' V',bj W t t'->I t' V'->Ev P G b n t' V' Q):Ev P G (.seq a b) n t V Q:=
 ai (h1.mono fun e t' V' h=>by obtain⟨rfl,h3,A⟩:=h;exact u t' V' h3 A)
end
variable {K:KP} {L:Own}
section
variable {P:Program} {G:Cx} {n:Nat} {V:D} {Q:Ex->PT Y->D->Prop}
inductive Cf where
 | ops (os:Array Oper) (l:List Oper)
 | lS (os:Array Oper) (l:List (Nat×List Nat))
 | code (c:Code)
 | out (e:Ex)
inductive Fm where
 | seq (b:Code)
 | de (id:Nat)
 | Wf (I:Nat->PT Y->D->Prop) (j:Nat)
def QS (P:Program) (G:Cx) (n:Nat) (Q:Ex->PT Y->D->Prop):List Fm->Ex->PT Y->D->Prop
 | []=>Q
 | .seq b::r=>dW P G n b (QS P G n Q r)
 | .de id::r=>mg id (QS P G n Q r)
 | .Wf I j::r=>zF I j (QS P G n Q r)
def At (P:Program) (G:Cx) (n:Nat) (V:D) (Q:Ex->PT Y->D->Prop) (c:Cf) (fs:List Fm) (t:PT Y):Prop:=
 match c with
 | .ops os l=>bL P G os n l t V (QS P G n Q fs)
 | .lS os l=>cS P G os n l t V (QS P G n Q fs)
 | .code c=>Ev P G c n t V (QS P G n Q fs)
 | .out e=>QS P G n Q fs e t V
def Io (P:Program) (G:Cx) (n:Nat) (c:Code) (fs:List Fm) (t:PT Y):Option (Cf×List Fm×PT Y):=
 match c with
 | .seq a b=>some (.code a,.seq b::fs,t)
 | .region _ os false=>bif mJ os.toList then none else some (.ops os os.toList,fs,t)
 | .cond x a b=>match bA G t x with
  | some (.bool true)=>some (.code a,fs,t)
  | some (.bool false)=>some (.code b,fs,t)
  | _=>none
 | .block id b=>some (.code b,.de id::fs,t)
 | .skip=>some (.out .normal,fs,t)
 | .label _=>some (.out .normal,fs,t)
 | .exit id=>some (.out (.exit id),fs,t)
 | .ret=>some (.out .ret,fs,t)
 | _=>none
def DM (P:Program) (G:Cx) (n:Nat) (c:Cf) (fs:List Fm) (t:PT Y):Option (Cf×List Fm×PT Y):=
 match c with
 | .ops _ []=>some (.out .normal,fs,t)
 | .ops os (o::l)=>match mT P G os n t o with
  | some t'=>some (.ops os l,fs,t')
  | none=>none
 | .lS _ []=>some (.out .normal,fs,t)
 | .lS os ((i,[])::l)=>match os[i]? with
  | some o=>match mT P G os n t o with
   | some t'=>some (.lS os l,fs,t')
   | none=>none
  | none=>none
 | .lS _ ((_,_::_)::_)=>none
 | .code c=>Io P G n c fs t
 | .out .normal=>match fs with
  | .seq b::r=>some (.code b,r,t)
  | .de _::r=>some (.out .normal,r,t)
  | _=>none
 | .out (.exit j)=>match fs with
  | .seq _::r=>some (.out (.exit j),r,t)
  | .de id::r=>bif Nat.beq j id then some (.out .normal,r,t) else some (.out (.exit j),r,t)
  | .Wf _ _::r=>some (.out (.exit j),r,t)
  | []=>none
 | .out .ret=>match fs with
  | .seq _::r=>some (.out .ret,r,t)
  | .de _::r=>some (.out .ret,r,t)
  | .Wf _ _::r=>some (.out .ret,r,t)
  | []=>none
 | .out _=>none
theorem Mh {c:Code} {c':Cf} {fs fs':List Fm} {t t':PT Y} (h:Io P G n c fs t=some (c',fs',t')) (hh:At P G n V Q c' fs' t'):Ev P G c n t V (QS P G n Q fs):=by
 unfold Io at h;split at h
 ·cases h;exact ai hh
 ·rename_i os;cases u:mJ os.toList with
  | true=>rw[u] at h;cases h
  | false=>rw[u] at h;cases h;exact af u hh
 ·split at h
  ·rename_i hx;cases h;exact aM hx hh
  ·rename_i hx;cases h;exact aN hx hh
  cases h
 ·cases h;exact aK hh
 ·cases h;exact aH hh
 ·cases h;exact ET hh
 ·cases h;exact bz hh
 ·cases h;exact aF hh
 cases h
theorem Cs {c c':Cf} {fs fs':List Fm} {t t':PT Y} (h:DM P G n c fs t=some (c',fs',t')) (hh:At P G n V Q c' fs' t'):At P G n V Q c fs t:=by
 unfold DM at h;split at h
 ·cases h;exact ae hh
 ·split at h
  ·rename_i u;cases h;exact uU u hh
  cases h
 ·cases h;exact a8 hh
 ·split at h
  ·rename_i A;split at h
   ·rename_i u;cases h;exact uT A u hh
   cases h
  cases h
 ·cases h
 ·exact Mh h hh
 ·split at h
  ·cases h;exact hh
  ·cases h;exact hh
  cases h
 ·rename_i j;split at h
  ·cases h;exact hh
  ·rename_i id r;cases hj:Nat.beq j id with
   | true=>
    rw[hj] at h;cases h;have:=nB hj;subst this;exact aQ hh
   | false=>rw[hj] at h;cases h;exact iE hj hh
  ·cases h;exact hh
  cases h
 ·split at h
  ·cases h;exact hh
  ·cases h;exact hh
  ·cases h;exact hh
  cases h
 cases h
def jB (P:Program) (G:Cx) (n:Nat):Nat->Cf->List Fm->PT Y->Option (Cf×List Fm×PT Y)
 | 0,c,fs,t=>some (c,fs,t)
 | k+1,c,fs,t=>match DM P G n c fs t with
  | some (c',fs',t')=>jB P G n k c' fs' t'
  | none=>none
theorem ep:∀(k:Nat) {c c':Cf} {fs fs':List Fm} {t t':PT Y},jB P G n k c fs t=some (c',fs',t')->At P G n V Q c' fs' t'->At P G n V Q c fs t
 | 0,_,_,_,_,_,_,h,hh=>by cases h;exact hh
 | k+1,_,_,_,_,_,_,h,hh=>by
  unfold jB at h;split at h
  ·rename_i u;exact Cs u<|ep k h hh
  cases h
inductive Cd where
 | fa (s i k:Nat)
 | ag (t:Nat)
def nF (P:Program):List Cd->Bool
 | []=>true
 | .fa s i k::r=>match ow P s i with
  | some q=>bif Nat.beq q k then nF P r else false
  | none=>false
 | .ag t::r=>match dE P t with
  | some none=>nF P r
  | _=>false
def Vf (P:Program) (G:Cx) (n:Nat) (os:Array Oper) (t:PT Y) (o:Oper) (s i k:Nat) (x:Operand):Option (PT Y):=
 match bH os t o with
 | some true=>match bA G t x with
  | some (.ptr b off)=>dA t n o.dst (.ptr b (off+k))
  | _=>none
 | _=>none
def Vp (P:Program) (G:Cx) (n:Nat) (os:Array Oper) (t:PT Y) (o:Oper) (x:Operand) (b':Nat) (cells:List Y):Option (PT Y×Nat):=
 match bH os t o with
 | some true=>match bA G t x with
  | some (.ptr b off)=>match nth cells off with
   | some v=>match dA t n o.dst v with
    | some t'=>some (t',b)
    | none=>none
   | none=>none
  | _=>none
 | _=>none
def Wg (P:Program) (G:Cx) (n:Nat) (L:Own) (os:Array Oper) (t:PT Y) (o:Oper) (hs:List Nat) (cs:List Cd) (e1 e2:List Nat):Option (PT Y×List Nat×List Cd×List Nat×List Nat):=
 match o.op,hs with
 | .fieldAddr s x i,k::hs=>match Vf P G n os t o s i k x with
  | some t'=>some (t',hs,.fa s i k::cs,e1,e2)
  | none=>none
 | .load ty x,k::hs=>match nth L k with
  | some (b',.row cells _ _)=>match Vp P G n os t o x b' cells with
   | some (t',b)=>some (t',hs,.ag ty::cs,b::e1,b'::e2)
   | none=>none
  | _=>none
 | _,_=>none
def Yk (o:Oper):Bool:=match o.op with
 | .fieldAddr ..=>true
 | .load ..=>true
 | _=>false
def XH (os:Array Oper) (t:PT Y) (o:Oper):Bool:=match bH os t o with
 | some true=>Yk o
 | _=>false
def Vh (c:Cf) (t:PT Y):Bool:=match c with
 | .ops os (o::_)=>XH os t o
 | .lS os ((i,[])::_)=>match os[i]? with
  | some o=>XH os t o
  | none=>false
 | _=>false
def Pv (P:Program) (G:Cx) (n:Nat) (L:Own) (c:Cf) (t:PT Y) (hs:List Nat) (cs:List Cd) (e1 e2:List Nat):Option (Cf×PT Y×List Nat×List Cd×List Nat×List Nat):=
 match c with
 | .ops os (o::l)=>match Wg P G n L os t o hs cs e1 e2 with
  | some (t',hs,cs,e1,e2)=>some (.ops os l,t',hs,cs,e1,e2)
  | none=>none
 | .lS os ((i,[])::l)=>match os[i]? with
  | some o=>match Wg P G n L os t o hs cs e1 e2 with
   | some (t',hs,cs,e1,e2)=>some (.lS os l,t',hs,cs,e1,e2)
   | none=>none
  | none=>none
 | _=>none
def Af (P:Program) (G:Cx) (n:Nat) (L:Own):Nat->Cf->List Fm->PT Y->List Nat->List Cd->List Nat->List Nat->Option (Cf×List Fm×PT Y×List Cd×List Nat×List Nat)
 | 0,c,fs,t,_,cs,e1,e2=>some (c,fs,t,cs,e1,e2)
 | k+1,c,fs,t,hs,cs,e1,e2=>match Vh c t with
  | true=>match Pv P G n L c t hs cs e1 e2 with
   | some (c',t',hs',cs',e1',e2')=>Af P G n L k c' fs t' hs' cs' e1' e2'
   | none=>none
  | false=>match DM P G n c fs t with
   | some (c',fs',t')=>Af P G n L k c' fs' t' hs cs e1 e2
   | none=>none
theorem QO {s i k:Nat} {r:List Cd} (h:nF P (.fa s i k::r)=true):ow P s i=some k/\nF P r=true:=by
 unfold nF at h;split at h
 ·rename_i q hq;cases hk:Nat.beq q k with
  | true=>rw[hk] at h;exact⟨by rw[hq,nB hk],h⟩
  | false=>rw[hk] at h;cases h
 cases h
theorem QN {t:Nat} {r:List Cd} (h:nF P (.ag t::r)=true):dE P t=some none/\nF P r=true:=by
 unfold nF at h;split at h
 ·rename_i u;exact⟨u,h⟩
 cases h
theorem OD (O:H V K L) {os:Array Oper} {t t':PT Y} {o:Oper} {N C:List Nat} {cs cs':List Cd} {e1 e2 u A:List Nat} (h:Wg P G n L os t o N cs e1 e2=some (t',C,cs',u,A)) (hc:nF P cs'=true) (he:u=A):
  (nF P cs=true/\e1=e2)/\bH os t o=some true/\∃v,dM P G (bA G t) V o.op= .val v V/\dA t n o.dst v=some t':=by
 unfold Wg at h;split at h
 ·rename_i s x i k E F;split at h
  ·rename_i R hf;cases h;obtain⟨h1,I⟩:=QO hc;unfold Vf at hf;split at hf
   ·rename_i hw;split at hf
    ·rename_i b off hx;exact⟨⟨I,he⟩,hw,_,by rw[F];exact ay hx h1,hf⟩
    cases hf
   cases hf
  cases h
 ·rename_i ty x k E F;split at h
  ·rename_i b' cells ee ro M;split at h
   ·rename_i R b hf;cases h;obtain⟨h1,I⟩:=QN hc;have hb:b=b':=(List.cons.inj he).1;have he':=(List.cons.inj he).2;unfold Vp at hf;split at hf
    ·rename_i hw;split at hf
     ·rename_i b2 off hx;split at hf
      ·rename_i v hv;split at hf
       ·rename_i t2 hp;cases hf;subst hb;rw[fL] at M;exact⟨⟨I,he'⟩,hw,v,by rw[F];exact av hx (O.get k M) h1 hv,hp⟩
       cases hf
      cases hf
     cases hf
    cases hf
   cases h
  cases h
 cases h
theorem Pw (O:H V K L) {c c':Cf} {fs:List Fm} {t t':PT Y} {E C:List Nat} {cs cs':List Cd} {e1 e2 u A:List Nat} (h:Pv P G n L c t E cs e1 e2=some (c',t',C,cs',u,A)) (hk:nF P cs'=true) (he:u=A) (hh:At P G n V Q c' fs t'):(nF P cs=true/\e1=e2)/\At P G n V Q c fs t:=by
 unfold Pv at h;split at h
 ·split at h
  ·rename_i hy;cases h;obtain⟨h1,hw,v,hv,hp⟩:=OD O hy hk he;exact⟨h1,S hw hv hp hh⟩
  cases h
 ·split at h
  ·rename_i o F;split at h
   ·rename_i hy;cases h;obtain⟨h1,hw,v,hv,hp⟩:=OD O hy hk he;exact⟨h1,ah F hw hv hp hh⟩
   cases h
  cases h
 cases h
theorem lU {K:KP} {L:Own} (O:H V K L):∀(k:Nat) {c c':Cf} {fs fs':List Fm} {t t':PT Y} {u:List Nat} {cs cs':List Cd} {e1 e2 A C:List Nat},Af P G n L k c fs t u cs e1 e2=some (c',fs',t',cs',A,C)->nF P cs'=true->A=C->At P G n V Q c' fs' t'->(nF P cs=true/\e1=e2)/\At P G n V Q c fs t
 | 0,_,_,_,_,_,_,_,_,_,_,_,_,_,h,hk,he,hh=>by cases h;exact⟨⟨hk,he⟩,hh⟩
 | k+1,_,_,_,_,_,_,_,_,_,_,_,_,_,h,hk,he,hh=>by
  unfold Af at h;split at h
  ·split at h
   ·rename_i u;obtain⟨⟨h1,E⟩,h3⟩:=lU O k h hk he hh;exact Pw O u h1 E h3
   cases h
  split at h
  ·rename_i u;obtain⟨h1,h3⟩:=lU O k h hk he hh;exact⟨h1,Cs u h3⟩
  cases h
end
theorem bj.WV {W:List Nat} {t t':PT Y} {w:Nat} (hw:Nat.blt w 256=true) (h:bj (w::W) t t'):bj W (t.put (t'.get w) w) t':=by
 rw[tV] at hw;obtain⟨h1,u,h3⟩:=h;obtain⟨s,m,l⟩:=t;rw[PT.w8 _ _ _ _ hw,PT.sG _ hw];refine⟨h1,u,fun k hk hn=>?_⟩;show _=lf (tG s w _) k;rw[mG _ _ _ _ hw hk];split
 ·rename_i e;rw[e]
 rename_i e;refine h3 k hk ?_;rw[List.elem_cons,hn];have:(k == w)=false:=by simpa using e
 rw[this]
def sN (o:Nat->Option Y):PT Y->List Nat->PT Y
 | t,[]=>t
 | t,a::r=>sN o (t.put (o a) a) r
def Bc (o:Nat->Option Y):List (Nat×Y)->Nat->Option Y
 | [],a=>o a
 | (k,v)::r,a=>bif Nat.beq a k then some v else Bc o r a
theorem Cw {o:Nat->Option Y}:∀{ks:List (Nat×Y)},(∀e∈ks,o e.1=some e.2)->Bc o ks=o
 | [],_=>rfl
 | (k,v)::r,h=>funext fun a=>by
  show(bif Nat.beq a k then some v else Bc o r a)=o a;cases hb:Nat.beq a k with
  | true=>rw[nB hb];exact(h (k,v) (.head _)).symm
  | false=>rw[Cw fun e he=>h e (.tail _ he)];rfl
def okW (W:List Nat):Bool:=W.all fun k=>Nat.blt k 256
theorem bj.fn {t':PT Y}:∀{W:List Nat} {t:PT Y},okW W=true->bj W t t'->t'=sN (fun k=>t'.get k) t W
 | [],_,_,h=>h.nil
 | a::r,t,hw,h=>by
  have hw:(Nat.blt a 256 && okW r)=true:=hw;rw[bA_] at hw;exact(bj.fn (W:=r) hw.2 (h.WV hw.1):)
section
variable {W:List Nat} {t t':PT Y}
theorem bj.qs {ks:List (Nat×Y)} (h:bj W t t') (hk:∀e∈ks,t'.get e.1=some e.2) (hw:okW W=true):∃o,t'=sN (Bc o ks) t W:=
 ⟨fun k=>t'.get k,(bj.fn hw h).trans<|congrArg (fun o=>sN o t W) (Cw hk).symm⟩
variable {k1 k2 k3 k4 k5 k6:Nat} {v1 v2 v3 v4 v5 v6:Y} (h:bj W t t')
include h
theorem bj.q0 (hw:okW W=true):∃o,t'=sN (Bc o []) t W:=h.qs (ks:=[]) (fun e he=>by cases he) hw
theorem bj.q1 (h1:t'.get k1=some v1) (hw:okW W=true):∃o,t'=sN (Bc o [(k1,v1)]) t W:=h.qs (fun e he=>by simp at he;subst he;exact h1) hw
theorem bj.q2 (h1:t'.get k1=some v1) (u:t'.get k2=some v2) (hw:okW W=true):∃o,t'=sN (Bc o [(k1,v1),(k2,v2)]) t W:=h.qs (fun e he=>by simp at he;rcases he with rfl | rfl;exact h1;exact u) hw
theorem bj.q3 (h1:t'.get k1=some v1) (u:t'.get k2=some v2) (h3:t'.get k3=some v3) (hw:okW W=true):∃o,t'=sN (Bc o [(k1,v1),(k2,v2),(k3,v3)]) t W:=h.qs (fun e he=>by simp at he;rcases he with rfl | rfl | rfl;exact h1;exact u;exact h3) hw
theorem bj.q4 (h1:t'.get k1=some v1) (u:t'.get k2=some v2) (h3:t'.get k3=some v3) (A:t'.get k4=some v4) (hw:okW W=true):∃o,t'=sN (Bc o [(k1,v1),(k2,v2),(k3,v3),(k4,v4)]) t W:=h.qs (fun e he=>by simp at he;rcases he with rfl | rfl | rfl | rfl;exact h1;exact u;exact h3;exact A) hw
theorem bj.q5 (h1:t'.get k1=some v1) (u:t'.get k2=some v2) (h3:t'.get k3=some v3) (A:t'.get k4=some v4) (h5:t'.get k5=some v5) (hw:okW W=true):∃o,t'=sN (Bc o [(k1,v1),(k2,v2),(k3,v3),(k4,v4),(k5,v5)]) t W:=h.qs (fun e he=>by simp at he;rcases he with rfl | rfl | rfl | rfl | rfl;exact h1;exact u;exact h3;exact A;exact h5) hw
end
theorem oF {W:List Nat} {t t':PT Y} (h:bj W t t':=by repeat (first | with_reducible exact bj.refl _ _ | refine bj.put Z ?_)):bj W t t':=h
def Tr (i:Nat) (t:PT Y):List Y->PT Y
 | []=>t
 | a::r=>Tr (i+1) (t.put (some a) i) r
theorem XD {P:Program} {G:Cx} (u:Plain G) {f:Nat} {fn:Func} {c:Code} {args:List Y} {V:D} {R:Y->D->Prop} (hf:P.funcs[f]? =some fn) (hb:fn.body=some c) (h:Ev P G c fn.ntmps (Tr 0 .leaf args) V (G6 P fn R))
  (A:qd fn.ntmps args=some (Tr 0 .leaf args):=by rfl) (hk:Nat.beq f Lk=false:=by rfl) (hl:Hy f=false:=by rfl) (C:Mf f=false:=by rfl):aW P G f args V R:=aX u hf hb A h hk hl C
def zp:List Nat->List (Nat×List Nat)
 | []=>[]
 | a::r=>(a,[])::zp r
def rg (a:Nat):Nat->List Nat
 | 0=>[]
 | n+1=>a::rg (a+1) n
variable {u:Code} {E j:Nat} {bI1:Nat->PT Y->D->Prop}
section
variable {P:Program} {G:Cx} {n:Nat} {V:D} {Q:Ex->PT Y->D->Prop} {os os2:Array Oper} {l l2:List Oper} {lp lp2:List (Nat×List Nat)} {c c2:Code} {t t2:PT Y} {K:KP} {L:Own} {hs:List Nat} {cs:List Cd} {e1 e2:List Nat}
theorem Xa (k:Nat) (h:jB P G n k (.code c) [] t=some (.code c2,[.seq u],t2)) (hh:Ev P G c2 n t2 V (dW P G n u Q)):Ev P G c n t V Q:=(ep (Q:=Q) k h hh:)
theorem XK (k:Nat) (h:jB P G n k (.code c) [] t=some (.out .normal,[],t2)) (hh:Q .normal t2 V):Ev P G c n t V Q:=(ep (Q:=Q) k h hh:)
theorem XL (k:Nat) (h:jB P G n k (.code c) [] t=some (.ops os2 l2,[],t2)) (hh:bL P G os2 n l2 t2 V Q):Ev P G c n t V Q:=(ep (Q:=Q) k h hh:)
theorem Xb (k:Nat) (h:jB P G n k (.code c) [] t=some (.ops os2 l2,[.seq u],t2)) (hh:bL P G os2 n l2 t2 V (dW P G n u Q)):Ev P G c n t V Q:=(ep (Q:=Q) k h hh:)
theorem Wi {A:Code} (k:Nat) (h:jB P G n k (.code c) [] t=some (.ops os2 l2,[.seq u,.seq A],t2)) (hh:bL P G os2 n l2 t2 V (dW P G n u<|dW P G n A Q)):Ev P G c n t V Q:=(ep (Q:=Q) k h hh:)
theorem XN (k:Nat) (h:jB P G n k (.code c) [] t=some (.out .ret,[],t2)) (hh:Q .ret t2 V):Ev P G c n t V Q:=(ep (Q:=Q) k h hh:)
theorem Wj {A:Code} (k:Nat) (h:jB P G n k (.code c) [.seq u] t=some (.code c2,[.seq A],t2)) (hh:Ev P G c2 n t2 V (dW P G n A Q)):Ev P G c n t V (dW P G n u Q):=(ep (Q:=Q) k h hh:)
theorem Wk {A:Code} (k:Nat) (h:jB P G n k (.code c) [.seq u] t=some (.ops os2 l2,[.seq A],t2)) (hh:bL P G os2 n l2 t2 V (dW P G n A Q)):Ev P G c n t V (dW P G n u Q):=(ep (Q:=Q) k h hh:)
theorem UY {A C:Code} (k:Nat) (h:jB P G n k (.code c) [.seq u] t=some (.ops os2 l2,[.seq A,.de E,.seq C],t2)) (hh:bL P G os2 n l2 t2 V (dW P G n A<|mg E<|dW P G n C Q)):Ev P G c n t V (dW P G n u Q):=(ep (Q:=Q) k h hh:)
theorem VD {A C:Code} (k:Nat) (h:jB P G n k (.code c) [.seq u] t=some (.ops os2 l2,[.seq A,.seq C],t2)) (hh:bL P G os2 n l2 t2 V (dW P G n A<|dW P G n C Q)):Ev P G c n t V (dW P G n u Q):=(ep (Q:=Q) k h hh:)
theorem Xc (k:Nat) (h:jB P G n k (.code c) [.seq u] t=some (.out .ret,[],t2)) (hh:Q .ret t2 V):Ev P G c n t V (dW P G n u Q):=(ep (Q:=Q) k h hh:)
theorem Wl {A:Nat} (k:Nat) (h:jB P G n k (.code c) [.seq u,.Wf bI1 A] t=some (.out (.exit j),[],t2)) (hh:Q (.exit j) t2 V):Ev P G c n t V (dW P G n u<|zF bI1 A Q):=(ep (Q:=Q) k h hh:)
theorem XO (k:Nat) (h:jB P G n k (.ops os l) [] t=some (.out .normal,[],t2)) (hh:Q .normal t2 V):bL P G os n l t V Q:=(ep (Q:=Q) k h hh:)
theorem XP (k:Nat) (h:jB P G n k (.ops os l) [] t=some (.ops os2 l2,[],t2)) (hh:bL P G os2 n l2 t2 V Q):bL P G os n l t V Q:=(ep (Q:=Q) k h hh:)
theorem Xd (k:Nat) (h:jB P G n k (.ops os l) [.seq u] t=some (.code c2,[],t2)) (hh:Ev P G c2 n t2 V Q):bL P G os n l t V (dW P G n u Q):=(ep (Q:=Q) k h hh:)
theorem Wm {A:Nat} (k:Nat) (h:jB P G n k (.ops os l) [.seq u] t=some (.code c2,[.de A],t2)) (hh:Ev P G c2 n t2 V (mg A Q)):bL P G os n l t V (dW P G n u Q):=(ep (Q:=Q) k h hh:)
theorem Wn {A:Code} (k:Nat) (h:jB P G n k (.ops os l) [.seq u] t=some (.code c2,[.seq A],t2)) (hh:Ev P G c2 n t2 V (dW P G n A Q)):bL P G os n l t V (dW P G n u Q):=(ep (Q:=Q) k h hh:)
theorem Xe (k:Nat) (h:jB P G n k (.ops os l) [.seq u] t=some (.ops os2 l2,[],t2)) (hh:bL P G os2 n l2 t2 V Q):bL P G os n l t V (dW P G n u Q):=(ep (Q:=Q) k h hh:)
theorem Wo {A:Code} (k:Nat) (h:jB P G n k (.ops os l) [.seq u] t=some (.ops os2 l2,[.seq A],t2)) (hh:bL P G os2 n l2 t2 V (dW P G n A Q)):bL P G os n l t V (dW P G n u Q):=(ep (Q:=Q) k h hh:)
theorem VE {A C:Code} (k:Nat) (h:jB P G n k (.ops os l) [.seq u] t=some (.ops os2 l2,[.seq A,.seq C],t2)) (hh:bL P G os2 n l2 t2 V (dW P G n A<|dW P G n C Q)):bL P G os n l t V (dW P G n u Q):=(ep (Q:=Q) k h hh:)
theorem Xf (k:Nat) (h:jB P G n k (.ops os l) [.seq u] t=some (.out .ret,[],t2)) (hh:Q .ret t2 V):bL P G os n l t V (dW P G n u Q):=(ep (Q:=Q) k h hh:)
theorem Wp {A:Nat} (k:Nat) (h:jB P G n k (.ops os l) [.seq u,.de A] t=some (.out .normal,[],t2)) (hh:Q .normal t2 V):bL P G os n l t V (dW P G n u<|mg A Q):=(ep (Q:=Q) k h hh:)
theorem Wq {A:Code} (k:Nat) (h:jB P G n k (.ops os l) [.seq u,.seq A] t=some (.out .ret,[],t2)) (hh:Q .ret t2 V):bL P G os n l t V (dW P G n u<|dW P G n A Q):=(ep (Q:=Q) k h hh:)
theorem Ws {A:Code} (k:Nat) (h:jB P G n k (.ops os l) [.seq u,.seq A] t=some (.out (.exit j),[],t2)) (hh:Q (.exit j) t2 V):bL P G os n l t V (dW P G n u<|dW P G n A Q):=(ep (Q:=Q) k h hh:)
theorem XQ (k:Nat) (h:jB P G n k (.lS os lp) [] t=some (.lS os2 lp2,[],t2)) (hh:cS P G os2 n lp2 t2 V Q):cS P G os n lp t V Q:=(ep (Q:=Q) k h hh:)
theorem Xg (k:Nat) (h:jB P G n k (.lS os lp) [.seq u] t=some (.code c2,[],t2)) (hh:Ev P G c2 n t2 V Q):cS P G os n lp t V (dW P G n u Q):=(ep (Q:=Q) k h hh:)
theorem Xh (k:Nat) (h:jB P G n k (.lS os lp) [.seq u] t=some (.out .ret,[],t2)) (hh:Q .ret t2 V):cS P G os n lp t V (dW P G n u Q):=(ep (Q:=Q) k h hh:)
theorem XR (O:H V K L) (k:Nat) (hi:List Nat) (h:Af P G n L k (.code c) [] t hi [] [] []=some (.ops os2 l2,[],t2,cs,e1,e2)) (he:e1=e2) (hh:bL P G os2 n l2 t2 V Q) (hc:nF P cs=true:=by kernel_rfl):Ev P G c n t V Q:=((lU (Q:=Q) O k h hc he hh).2:)
theorem Wt {A:Code} (O:H V K L) (k:Nat) (hi:List Nat) (h:Af P G n L k (.code c) [] t hi [] [] []=some (.ops os2 l2,[.seq u,.seq A],t2,cs,e1,e2)) (he:e1=e2) (hh:bL P G os2 n l2 t2 V (dW P G n u<|dW P G n A Q)) (hc:nF P cs=true:=by kernel_rfl):Ev P G c n t V Q:=((lU (Q:=Q) O k h hc he hh).2:)
theorem XS (O:H V K L) (k:Nat) (hi:List Nat) (h:Af P G n L k (.ops os l) [] t hi [] [] []=some (.ops os2 l2,[],t2,cs,e1,e2)) (he:e1=e2) (hh:bL P G os2 n l2 t2 V Q) (hc:nF P cs=true:=by kernel_rfl):bL P G os n l t V Q:=((lU (Q:=Q) O k h hc he hh).2:)
theorem Wu {A:Code} (O:H V K L) (k:Nat) (hi:List Nat) (h:Af P G n L k (.ops os l) [.seq u] t hi [] [] []=some (.ops os2 l2,[.seq A],t2,cs,e1,e2)) (he:e1=e2) (hh:bL P G os2 n l2 t2 V (dW P G n A Q)) (hc:nF P cs=true:=by kernel_rfl):bL P G os n l t V (dW P G n u Q):=((lU (Q:=Q) O k h hc he hh).2:)
theorem VF {A C:Code} (O:H V K L) (k:Nat) (hi:List Nat) (h:Af P G n L k (.ops os l) [.seq u] t hi [] [] []=some (.ops os2 l2,[.seq A,.seq C],t2,cs,e1,e2)) (he:e1=e2) (hh:bL P G os2 n l2 t2 V (dW P G n A<|dW P G n C Q)) (hc:nF P cs=true:=by kernel_rfl):bL P G os n l t V (dW P G n u Q):=((lU (Q:=Q) O k h hc he hh).2:)
theorem Xi (O:H V K L) (k:Nat) (hi:List Nat) (h:Af P G n L k (.ops os l) [.seq u] t hi [] [] []=some (.out .ret,[],t2,cs,e1,e2)) (he:e1=e2) (hh:Q .ret t2 V) (hc:nF P cs=true:=by kernel_rfl):bL P G os n l t V (dW P G n u Q):=((lU (Q:=Q) O k h hc he hh).2:)
theorem XT (O:H V K L) (k:Nat) (hi:List Nat) (h:Af P G n L k (.lS os lp) [] t hi [] [] []=some (.lS os2 lp2,[],t2,cs,e1,e2)) (he:e1=e2) (hh:cS P G os2 n lp2 t2 V Q) (hc:nF P cs=true:=by kernel_rfl):cS P G os n lp t V Q:=((lU (Q:=Q) O k h hc he hh).2:)
end
end Go.Ev
namespace Go.Ev
variable [Env] {α:Type} {K:KP} {vs:List Y}
inductive XE where
 | mk (op num:Int) (name:List Nat) (kids:List XE)
structure XI where
 kind:Int
 z6:Int
 loc:Int
 order:Int
 to:Int
 exprs:List XE
structure XC where
 bE:Int
 ins:List XI
def kV (K:KP):Nat->XE->List Y->Prop
 | 0,_,_=>False
 | k+1,.mk op num name kids,vs=>∃v,vs= [.int .i64 op,.int .i64 num,.str name,v]/\bG K 4 (kV K k) kids v
def jA (K:KP) (k:Nat) (x:XI) (vs:List Y):Prop:=∃v,vs= [.int .i64 x.kind,.int .i64 x.z6,.int .i64 x.loc,.int .i64 x.order,.int .i64 x.to,v]/\bG K 4 (kV K k) x.exprs v
def sg (K:KP) (k:Nat) (x:XC) (vs:List Y):Prop:=∃v,vs= [.int .i64 x.bE,v]/\bG K 6 (jA K k) x.ins v
def XE.kids:XE->List XE
 | .mk _ _ _ k=>k
theorem kV.shape {k:Nat} {x:XE} (h:kV K k x vs):∃op num name v,vs= [.int .i64 op,.int .i64 num,.str name,v]/\bG K 4 (kV K (k-1)) x.kids v:=by
 cases k with
 | zero=>cases x;exact h.elim
 | succ k=>
  obtain⟨op,num,name,kids⟩:=x;obtain⟨v,rfl,hk⟩:=h;exact⟨_,_,_,v,Z,hk⟩
open Classical in
def dv {α:Type} (a b:α):Bool:=decide (a=b)
theorem eh {a b:α}:dv a b=true↔a=b:=by unfold dv;simp
theorem uP {a b:α}:dv a b=false↔a≠b:=by unfold dv;simp
theorem eb {c:Bool} (h:(bif c then false else true)=true):c=false:=by cases c<;>simp_all
theorem dg {c:Bool} (h:(bif c then false else true)=false):c=true:=by cases c<;>simp_all
theorem qI {α β:Type} {l1:List α} {l2:List β} (h:bD (.ofNat l1.length) (.ofNat l2.length)=true):l1.length=l2.length:=by
 rw[dS] at h
 grind
theorem UZ {l1 l2:List α} {i:Nat} {x y:α} (h:∀k,k<i->l1[k]? =l2[k]?) (hx:l1[i]? =some x) (hy:l2[i]? =some y) (hs:dv x y=true):∀k,k<i+1->l1[k]? =l2[k]?:=fun k hk=>by
 grind [eh]
theorem bI {a b:Nat} (h:cW (.ofNat a) (.ofNat b)=false):b<=a:=by
 grind [eQ]
theorem aS {a b:Nat} (h:cW (.ofNat a) (.ofNat b)=true):a<b:=by
 rw[eQ,decide_eq_true_iff] at h
 simp_all
theorem da {l:List α} {i:Nat} (h:i<l.length):∃x,l[i]? =some x:=⟨l[i],gC h⟩
def wP (f:XE->Int->Int):List XE->Int->Int
 | [],m=>m
 | x::r,m=>bif cW m 0 then m else wP f r (f x m)
def SY (name:List Nat) (left:Int):Int:=wr .i64 (Int.sub (wr .i64<|Int.sub left 1)<|wr .i64<|Int.tdiv (.ofNat<|dt name) 20)
def E9:Nat->XE->Int->Int
 | 0,_,m=>m
 | k+1,.mk _ _ name kids,m=>wP (E9 k) kids (SY name m)
def Hx (k:Nat) (x:XE) (most:Int):Bool:=bif cW (E9 k x most) 0 then false else true
def zB (k:Nat) (x:XI):Bool:=bif cW 4 (.ofNat x.exprs.length) then false else x.exprs.all fun e=>Hx k e 60
def tz (k:Nat) (most:Int) (x:XC):Bool:=bif cW most (.ofNat x.ins.length) then false else x.ins.all (zB k)
def xP (k:Nat) (most:Int) (l:List XC):Bool:=(l.take 6).all (tz k most) && (bif cW 6 (.ofNat l.length) then false else true)
theorem Lj {f:XE->Int->Int} {l:List XE} {i:Nat} {m:Int} (h:l.length<=i):wP f (l.drop i) m=m:=by rw[List.drop_eq_nil_of_le h];rfl
theorem Lh {f:XE->Int->Int} {l:List XE} {m:Int} (h:cW m 0=true):wP f l m=m:=by
 cases l with
 | nil=>rfl
 | cons x r=>show(bif cW m 0 then m else _)=m;rw[h];rfl
theorem Hp {f:XE->Int->Int} {l:List XE} {i:Nat} {m:Int} {x:XE} (hx:l[i]? =some x) (h:cW m 0=false):wP f (l.drop i) m=wP f (l.drop (i+1)) (f x m):=by
 have u:i<l.length:=(gA.1 hx).1;rw[zj_ u];have:l[i]=x:=(gA.1 hx).2;rw[this];show(bif cW m 0 then m else _)=_;rw[h];rfl
theorem mb {f:α->Bool} {l:List α} {i:Nat} {x:α} (hx:l[i]? =some x) (h:f x=false):l.all f=false:=by
 grind
theorem Qz {f:α->Bool} {l:List α} {i n:Nat} {x:α} (hx:l[i]? =some x) (hi:i<n) (h:f x=false):(l.take n).all f=false:=mb (i:=i) (by simp_all) h
theorem iO {f:α->Bool} {l:List α} {i:Nat} {x:α} (u:(l.take i).all f=true) (hx:l[i]? =some x) (h:f x=true):(l.take (i+1)).all f=true:=by
 rw[zb_,hx,List.all_append,u];simp[h]
theorem fH {f:α->Bool} {l:List α} {i:Nat} (u:(l.take i).all f=true) (h:l.length<=i):l.all f=true:=by
 rw[tL_ h] at u;exact u
theorem Ej {f:α->Bool} {l:List α} {i n:Nat} (u:(l.take i).all f=true) (h:n<=i):(l.take n).all f=true:=by
 rw[aE_] at u⊢
 exact fun x hx=>u x (by
  obtain⟨j,hj⟩:=gO_ hx;rw[List.getElem?_take] at hj;split at hj
  ·exact gB_ (i:=j) (by grind)
  cases hj)
theorem dh {l:List α} {i:Nat} (h:cW (.ofNat i) (.ofNat l.length)=true):∃x,l[i]? =some x/\i<l.length:=by
 rw[eQ,decide_eq_true_iff] at h
 simp_all
end Go.Ev
namespace Go.Ev
variable [Env] {α:Type}
def dB (n:Int) (vs:List Y):Prop:=vs= [.int .i64 n]
def RL {α:Type} (K:KP) (m:Nat) (R:α->List Y->Prop) (l:List α) (vs:List Y):Prop:=∃v,vs= [v]/\bG K m R l v
theorem Em {f:α->Bool} {l:List α} {i:Nat} {x:α} (u:(l.take i).any f=false) (hx:l[i]? =some x) (h:f x=false):(l.take (i+1)).any f=false:=by
 rw[zb_,hx,List.any_append,u];simp[h]
theorem CQ {f:α->Bool} {l:List α} {i:Nat} {x:α} (hx:l[i]? =some x) (h:f x=true):l.any f=true:=by
 grind
theorem rB {f:α->Bool} {l:List α} {i:Nat} (u:(l.take i).any f=false) (h:l.length<=i):l.any f=false:=by
 rw[tL_ h] at u;exact u
end Go.Ev
namespace Go.Ev
variable [Env]
variable {cb:List Int} {x y:Operand}
def G9 (xs ys:List Int):Bool:=
 List.rec (motive:=fun _=>List Int->Bool) (fun ys=>List.rec (motive:=fun _=>Bool) true (fun _ _ _=>false) ys)
  (fun x _ ih ys=>List.rec (motive:=fun _=>Bool) false (fun y r _=>bif bD x y then ih r else false) ys) xs ys
theorem Ja:∀(xs ys:List Int),G9 xs ys=dv xs ys
 | [],[]=>by rw[show G9 [] []=true from Z,eq_comm,eh]
 | [],_::_=>by rw[show G9 [] (_::_)=false from Z,eq_comm,uP];simp
 | _::_,[]=>by rw[show G9 (_::_) []=false from Z,eq_comm,uP];simp
 | x::xs,y::ys=>by
  show(bif bD x y then G9 xs ys else false)=_;rw[Ja xs ys,dS,zd_,eh]
  grind [eh]
def ints (xs:List Int):List Y:=xs.map (.int .i64)
def N6:Option TypeDesc->Bool
 | some (.int .i64)=>true
 | _=>false
def vN (P:Program) (fs:List Field):Nat->Bool:=List.rec (motive:=fun _=>Nat->Bool) (fun _=>true) (fun f _ ih k=>N6 (P.underlying f.type) && (Nat.beq f.offset k && ih (k+1))) fs
def jy (P:Program) (t:TypeId) (n:Nat):Bool:=
 match structOf P t with
 | some fs=>vN P fs.toList 0 && (Nat.beq fs.toList.length n && (!P.eqGuardType P.depth t && (!P.stoodInHeld t && lQ fs.toList)))
 | none=>false
theorem sA {P:Program}:∀(fs:List Field) (k:Nat) (xs ys:List Int),vN P fs k=true->xs.length=k+fs.length->ys.length=k+fs.length->eqFields P fs (ints xs) (ints ys)=some (G9 (xs.drop k)<|ys.drop k)
 | [],k,xs,ys,_,h1,u=>by
  rw[List.drop_eq_nil_of_le (by simp at h1;omega),List.drop_eq_nil_of_le (by simp at u;omega)];rfl
 | f::fs,k,xs,ys,h,h1,u=>by
  have h':(N6 (P.underlying f.type) && (Nat.beq f.offset k && vN P fs (k+1)))=true:=h;simp only[bA_] at h';obtain⟨e1,e2,A⟩:=h';have hk:f.offset=k:=nB e2
  have hu:P.underlying f.type=some (.int .i64):=by
   grind [N6]
  have l1:k<xs.length:=by simp at h1;omega
  have l2:k<ys.length:=by simp at u;omega
  have C:nth (ints xs) f.offset=some (.int .i64 xs[k]):=by grind [fL,ints]
  have E:nth (ints ys) f.offset=some (.int .i64 ys[k]):=by grind [fL,ints]
  have ih:=sA fs (k+1) xs ys A (by simp at h1⊢;omega) (by simp at u⊢;omega)
  show(match P.underlying f.type,nth (ints xs) f.offset,nth (ints ys) f.offset with
   | some .bool,some (.bool a),some (.bool b)=>bif (bif a then b else(bif b then false else true)) then eqFields P fs (ints xs) (ints ys) else some false
   | some (.int _),some (.int j a),some (.int k b)=>bif uj j k then(bif bD a b then eqFields P fs (ints xs) (ints ys) else some false) else none
   | some .string,some (.str a),some (.str b)=>bif wL a b then eqFields P fs (ints xs) (ints ys) else some false
   | some (.struct gs),_,_=>_
   | some (.array m e),_,_=>_
   | _,_,_=>none)=_
  rw[hu,C,E,zj_ l1,zj_ l2,ih];show(bif bD xs[k] ys[k] then _ else some false)=some (bif bD xs[k] ys[k] then G9 (xs.drop (k+1)) (ys.drop (k+1)) else false)
  grind
theorem ui {P:Program} {t:TypeId} {n:Nat} {xs ys:List Int} (h:jy P t n=true) (hx:xs.length=n) (hy:ys.length=n):G7 P t (.agg<|ints xs) (.agg<|ints ys)=some (dv xs ys):=by
 unfold jy at h;split at h
 ·rename_i fs u;simp only[bA_,Bool.not_eq_true'] at h;obtain⟨h1,A,h3,C,h5⟩:=h;have hn:fs.toList.length=n:=nB A;unfold G7;dsimp only;rw[u];dsimp only;rw[h3,C,h5];simp only[Bool.not_true,Bool.or_false,cond_false];rw[sA fs.toList 0 xs ys h1 oM oM,List.drop_zero,List.drop_zero,Ja]
 cases h
section
variable {P:Program} {G:Cx} {ev:Operand->Option Y} {V:D}
theorem Tk {t r:TypeId} {n:Nat} {ca:List Int} (h:jy P t n=true) (u:ca.length=n) (hb:cb.length=n) (hx:ev x=some (.agg<|ints ca)) (hy:ev y=some (.agg<|ints cb)):dM P G ev V (.binOp .eql t x y r)= .val (.bool<|dv ca cb) V:=by
 refine aB hx hy ?_;show nm P .eql t _ _=_;unfold nm;dsimp only;rw[ui h u hb]
theorem Qa {t r:TypeId} {n:Nat} {ca:List Int} (h:jy P t n=true) (u:ca.length=n) (hb:cb.length=n) (hx:ev x=some (.agg<|ints ca)) (hy:ev y=some (.agg<|ints cb)):dM P G ev V (.binOp .neq t x y r)= .val (.bool (bif dv ca cb then false else true)) V:=by
 refine aB hx hy ?_;show nm P .neq t _ _=_;unfold nm;dsimp only;rw[ui h u hb]
end
structure bV where
 bM:Int
 index:Int
structure bW where
 kind:Int
 loc:Int
 order:Int
 read:Int
 write:Int
structure XG where
 init:List Int
 threads:List (List bW)
 from_:List (List bV)
 order:List (List bV)
def bV.ints (x:bV):List Int:=[x.bM,x.index]
def bW.ints (x:bW):List Int:=[x.kind,x.loc,x.order,x.read,x.write]
theorem bV.same {x y:bV}:dv x.ints y.ints=dv x y:=by
 rw[zd_,eh,eh];cases x;cases y;simp[bV.ints]
def fj (x:bV) (vs:List Y):Prop:=vs=ints x.ints
def iN (x:bW) (vs:List Y):Prop:=vs=ints x.ints
structure eS (K:KP) (g:XG) (a b c d:Y):Prop where
 init:bG K 1 dB g.init a
 threads:bG K 1 (RL K 5 iN) g.threads b
 from_:bG K 1 (RL K 2 fj) g.from_ c
 order:bG K 1 (RL K 2 fj) g.order d
end Go.Ev
namespace Go.Ev
section
variable [Env] {H_:Type}
def Fit (P:Program):Nat->TypeId->DataW H_->Prop
  | 0,_,_=>False
  | fuel+1,t,d=>
    match P.underlying t with
    | some .bool=>∃b,d= .lit (.bool b)
    | some (.int k)=>∃n,d= .lit (.int k n)
    | some .string=>∃s,d= .lit (.string s)/\s.length<=maxLen
    | some (.slice e)=>d= .nil∨∃elems spare,d= .slice elems spare/\∀x∈elems,Fit P fuel e x
    | some (.struct fs)=>∃parts,d= .agg parts/\parts.length=fs.size/\∀(i:Nat) (f:Field) (x:DataW H_),fs[i]? =some f->parts[i]? =some x->Fit P fuel f.type x
    | _=>True
theorem Fq {α β:Type} {f:α->Option β}:∀{l:List α} {ys:List β},l.mapM f=some ys->ys.length=l.length/\∀(i:Nat) (x:α),l[i]? =some x->∃y,ys[i]? =some y/\f x=some y
  | [],ys,h=>by simp_all
  | a::l,ys,h=>by
    simp only[List.mapM_cons,Option.bind_eq_bind,Option.bind_eq_some_iff,Option.pure_def,oJ_] at h;obtain⟨y,h1,r,u,rfl⟩:=h;obtain⟨k1,k2⟩:=Fq u
    grind
variable {enc:TypeId×Value->H_} {P:Program} {w:World}
theorem qA:∀(fuel:Nat) (t:TypeId) (cs:List Value) (d:DataW H_) (p:List MemPlace),DataW.trod enc P w 0 (fun _=>true) true fuel t cs=some (d,p)->Fit P fuel t d
  | 0,_,_,_,_,h=>by simp[DataW.trod] at h
  | fuel+1,t,cs,d,p,h=>by
    have ih:=qA fuel;unfold Fit;cases hu:P.underlying t with
    | none=>trivial
    | some u=>
      unfold DataW.trod at h;rw[hu] at h;cases u with
      | bool=>
        split at h<;>first | (rename_i he;cases he;done) | skip
        all_goals first
          | (cases h;exact⟨_,Z⟩)
          | cases h
      | int k=>
        split at h<;>first | (rename_i he;cases he;done) | skip
        all_goals first
          | (rename_i F E n he
             cases he;split at h
             · cases h;exact⟨_,Z⟩
             · cases h)
          | cases h
      | string=>
        split at h<;>first | (rename_i he;cases he;done) | skip
        all_goals first
          | (split at h
             · rename_i I;cases h;exact⟨_,Z,by rw[Array.length_toList];exact I⟩
             · cases h)
          | cases h
      | struct fs=>
        dsimp only at h⊢;split at h
        · obtain⟨xs,K,hx⟩:=oM_.1 h
          have A:d= .agg (xs.map (·.1)):=by have:=congrArg Prod.fst hx;simpa using this.symm
          obtain⟨F,E⟩:=Fq K;refine⟨_,A,by simpa using F,fun i f x hf C=>?_⟩;obtain⟨y,hy,L⟩:=E i f (by rw[aT_];exact hf);rw[gM_,hy] at C;cases C;exact ih _ _ _ y.2 L
        · cases h
      | slice e=>
        split at h<;>first | (rename_i he;cases he;done) | skip
        · cases h;exact .inl Z
        · rename_i e' a len cap he
          cases he;dsimp only at h;rw[if_pos Z] at h;split at h
          · obtain⟨elems,M,N⟩:=Option.bind_eq_some_iff.1 h
            obtain⟨rest,_,A⟩:=oM_.1 N;have A:d= .slice (elems.map (·.1)) (rest.map (·.1)):=by have:=congrArg Prod.fst A;simpa using this.symm
            refine .inr ⟨_,_,A,fun x hx=>?_⟩;obtain⟨y,hy,rfl⟩:=zn_.1 hx;obtain⟨i,hi⟩:=gO_ hy;obtain⟨F,E⟩:=mL M;obtain⟨j,_,hj⟩:=E i y hi;obtain⟨c,_,hc⟩:=Option.bind_eq_some_iff.1 hj;exact ih _ _ _ y.2 hc
          · cases h
        all_goals cases h
      | _=>trivial
end
section
variable [Env] {P:Program} {G:Cx}
def Bg (V:D):KP:=fun b o=>b<V.next/\V.m.get b=some o
theorem H.of (V:D):H V (Bg V) []:=⟨fun b o h=>⟨h.1,h.2,fun e he=>by cases he⟩,fun e he=>(by cases he),List.Pairwise.nil⟩
theorem iK.Vr {w w':World} {U U':Ren} {V V':D} (h:eH U V w U' V' w') (C:lC V):iK w w':=
  ⟨h.os,h.out,h.tape,h.size,fun r u=>h.frame r u fun⟨b,o,l,h1,A,_⟩=>by rw[C b o h1] at A;cases A⟩
theorem wC (hm:P.follows .mixedOrders=true) (u:AG P G) {U:Ren} {V:D} {w:World} {f:Nat} {args:List Y} {xs:Array Value} {R:Y->D->Prop} (hi:Inv U V w) (A:GR U G) (C:lC V) (hx:di U args xs.toList) (h:aW P G f args V R):
    Calls P f xs w fun e w'=>∃v x V' U',e= .returned x/\iK w w'/\VR U' v x/\R v V':=by
  obtain⟨K,v,V',h1,E⟩:=h;exact qx (fuel:=K) hm u (h1 K<|nR_ _) hi A hx fun U' w' x _ st hv=>⟨v,x,V',U',Z,iK.Vr st C,hv,E⟩
theorem eG.fresh {U:Ren} {V:D} {w:World} (hi:Inv U V w) {b:Nat} {o:cd} (h:V.m.get b=some o):b<V.next:=by
  rcases Nat.lt_or_ge b V.next with h' | h'
  · exact h'
  · rw[(hi.fresh b h').2] at h;cases h
end
end Go.Ev
namespace Go.Ev
variable [Env] {α:Type} {V:D} {φ:Go.Shelf.Ren} {gs:Nat->Bool} {U:Ren}
open Go.Proofs Go.Shelf Go.RowKit Go.Lib Go.Sort
def R3:cd->Option cd
 | .row c e _=>some (.row c e true)
 | .own c e=>some (.row c e true)
 | _=>none
def Pg (V:D) (b:Nat):Nat->PT cd
 | 0=>.leaf
 | n+1=>if n=b then Pg V b n else match(V.m.get n).bind R3 with
  | some o=>(Pg V b n).put (some o) n
  | none=>Pg V b n
def Qr (V:D) (b:Nat):D:=⟨V.next,Pg V b V.next⟩
theorem DD (V:D) (b:Nat):∀n i:Nat,(Pg V b n).get i=if i<n/\i≠b then(V.m.get i).bind R3 else none
 | 0,i=>by
  show(PT.leaf:PT cd).get i=_;rw[PT.mF,if_neg oM]
 | n+1,i=>by
  have ih:=DD V b n i;unfold Pg
  by_cases hb:n=b
  ·rw[if_pos hb,ih]
   by_cases h:i<n/\i≠b
   ·rw[if_pos h,if_pos ⟨by omega,h.2⟩]
   rw[if_neg h,if_neg oM]
  rw[if_neg hb]
  by_cases hi:i=n
  ·subst hi;rw[if_pos ⟨by omega,hb⟩];cases hg:(V.m.get i).bind R3 with
   | some o=>dsimp only;exact PT.dR _ _ _
   | none=>dsimp only;rw[ih,if_neg oM]
  have key:(match(V.m.get n).bind R3 with | some o=>(Pg V b n).put (some o) n | none=>Pg V b n).get i=(Pg V b n).get i:=by
   cases (V.m.get n).bind R3 with
   | some o=>exact PT.dD _ _ _ _ hi
   | none=>rfl
  rw[key,ih]
  by_cases h:i<n/\i≠b
  ·rw[if_pos h,if_pos ⟨by omega,h.2⟩]
  rw[if_neg h,if_neg oM]
theorem DC {b i:Nat} {o:cd} (h:(Qr V b).m.get i=some o):i≠b/\∃o',V.m.get i=some o'/\R3 o'=some o:=by
 have u:(Pg V b V.next).get i=some o:=h;rw[DD] at u;split at u
 ·rename_i hc;obtain⟨o',h3,A⟩:=Option.bind_eq_some_iff.1 u;exact⟨hc.2,o',h3,A⟩
 cases u
theorem Up {o o':cd} (h:R3 o=some o'):o'.ro=true:=by
 cases o<;>first | (cases h;rfl) | cases h
theorem VN {l:Loc} {o o':cd} {x:Obj} (h:R3 o=some o') (hx:gz U l o x):gz U l o' x:=by
 cases o with
 | row c e ro=>
  cases h;obtain⟨c',fr,h1,u,h3,A,_⟩:=hx;exact⟨c',fr,h1,u,h3,A,fun h=>by cases h⟩
 | own c e=>
  cases h;obtain⟨_,c',fr,h1,u,h3,A,_⟩:=hx;exact⟨c',fr,h1,u,h3,A,fun h=>by cases h⟩
 | _=>cases h
theorem xV (V:D) (b:Nat):lC (Qr V b):=fun i o h=>by
 obtain⟨_,o',_,u⟩:=DC h;exact Up u
theorem Inv.Qr {U:Ren} {V:D} {w W:World} (hi:Inv U V w) {b:Pos} {l:Loc} {o:cd} (hb:V.m.get b=some o) (C:o.ro=false) (hl:U b=some l)
  (I:w.heap.size<=W.heap.size) (hw:∀r:Nat,r<w.heap.size->r≠l.de->W.heap[r]? =w.heap[r]?):Inv U (Qr V b) W:=by
 have E:∀r:Nat,r<Env.n0->r≠l.de:=fun r u e=>hi.oW.no r u ⟨b,o,l,hb,C,hl,e.symm⟩
 refine⟨⟨fun b' F=>?_,fun b' l' h=>zh_ (hi.de b' l' h) I,fun b' o' l' h1 A=>?_,fun b' b'' o' o'' l' l'' h1 A _ _ _ _=>⟨xV _ _ _ _ h1,xV _ _ _ _ A⟩⟩,⟨Nat.le_trans hi.oW.size I,fun r u=>?_,fun r u ⟨b',o',l',h1,A,_⟩=>by rw[xV _ _ _ _ h1] at A;cases A⟩⟩
 ·have hf:=hi.fresh b' F;refine⟨hf.1,?_⟩;cases hq:(Go.Ev.Qr V b).m.get b' with
  | none=>rfl
  | some q=>
   obtain⟨_,o',h3,_⟩:=DC hq;rw[hf.2] at h3;cases h3
 ·obtain⟨hne,K,h3,L⟩:=DC h1;obtain⟨x,hx,u⟩:=hi.obj b' K l' h3 A
  have G:l'.de≠l.de:=fun e=>by
   have:=(hi.inj b' b K o l' l h3 hb A hl e hne).2;rw[C] at this;cases this
  exact⟨x,by rw[hw _ (hi.de b' l' A) G];exact hx,VN L u⟩
 rw[hw r (zh_ u hi.oW.size)<|E r u];exact hi.oW.same r u
theorem iK.grown {W w':World} (h:iK W w'):∃q os',w'=Go.Sort.grow (W.drewN q) os':=by
 refine⟨w'.drawn-W.drawn,w'.heap.extract W.heap.size w'.heap.size,?_⟩
 have e1:W.heap++w'.heap.extract W.heap.size w'.heap.size=w'.heap:=by
  apply Array.ext_getElem?;intro i
  by_cases hi:i<W.heap.size
  ·rw[Array.getElem?_append_left hi,h.same i hi]
  rw[Array.getElem?_append_right oM,Array.getElem?_extract]
  by_cases h2:i<w'.heap.size
  ·rw[if_pos oM];congr 1;omega
  rw[if_neg oM];simp[h2]
 have hd:=h.out.2;have h1:=h.out.1;have h2:=h.os;have h3:=h.tape;obtain⟨heap,tape,drawn,os,output⟩:=w';dsimp only at h1 h2 h3 hd e1;subst h1 h2 h3;unfold Go.Sort.grow World.drewN;dsimp only;rw[e1,Nat.add_sub_cancel' hd]
def fh (k:Nat) (cells:List Y) {n:Nat} (d:Array (Fin (n+1))):List Y:=
 (List.range (d.size*k)).map (fun t=>cells.getD ((d[t/k]!).val*k+t%k) .any)++cells.drop (d.size*k)
def I8 (k:Nat) (cells:List Y) (i:Nat):Y:=.agg ((cells.drop (i*k)).take k)
def Eb (P:Program) (G0:Cx) (k g:Nat) (V:D) (b:Nat) (cells:List Y) (n:Nat) (cf:Fin (n+1)->Fin (n+1)->Int):Prop:=
 SWO (ltOf cf)/\∀x y:Fin (n+1),aW P G0 g [I8 k cells x.val,I8 k cells y.val] (Qr V b) fun v _=>v= .int .i64 (cf x y)
def jR {n:Nat} (cf:Fin (n+1)->Fin (n+1)->Int):Array (Fin (n+1)):=
 pdq (ltOf cf) (Array.ofFn (fun i:Fin (n+1)=>i)) 0 (n+1) (Lib.bitLen (n+1)) true true
def EF (c:oY):Bool:=match c with | .known _=>true | .upto _=>true | .least _ _=>false
open Classical in
def An (P:Program) (G0:Cx) (F k:Nat) (gs:Nat->Bool) (f:Nat) (args:List Y) (V:D):Option (Y×D):=
 if f=F then
  match args with
  | [.aw,_]=>some (.tuple [],V)
  | [.slice b 0 (n+1) c,.func g [] []]=>
   match V.m.get b with
   | some (.row cells e false)=>
    if h:((n+1)*k<=cells.length/\n+1<4611686018427387904/\gs g=true/\EF c=true/\cg (cells.take ((n+1)*k))=true)/\∃cf,Eb P G0 k g V b cells n cf then
     some (.tuple [],V.setObj b (.row (fh k cells<|jR<|Classical.choose h.2) e false))
    else none
   | _=>none
  | _=>none
 else none
section
variable {P:Program} {G0:Cx}
theorem di.sub {cells:List Y} {ys:List Value} {i k:Nat} (hl:i+k<=cells.length) (hy:ys.length=k) (h:∀j,j<k->∃v y,cells[i+j]? =some v/\ys[j]? =some y/\VR U v y):di U ((cells.drop i).take k) ys:=by
 refine di.HG (by simp;omega) fun j v hv=>?_
 rw[List.getElem?_take] at hv;split at hv
 ·rename_i hj;rw[List.getElem?_drop] at hv;obtain⟨v',y,h1,u,h3⟩:=h j hj;rw[h1] at hv;cases hv;exact⟨y,u,h3⟩
 cases hv
theorem OQ [Inhabited α] (lt:α->α->Bool) (hO:SWO lt) (d:Array α):(pdq lt d 0 d.size (Lib.bitLen d.size) true true).size=d.size:=
 (pdq_sorts lt hO d 0 d.size (Lib.bitLen d.size) true true (Nat.zero_le _) (nR_ _)<|Or.inl Z).1.1
theorem uS {n:Nat} {cf:Fin (n+1)->Fin (n+1)->Int} (hO:SWO (ltOf cf)):(jR cf).size=n+1:=by
 have:=OQ (ltOf cf) hO (Array.ofFn (fun i:Fin (n+1)=>i));rw[Array.size_ofFn] at this;exact this
theorem NZ {n:Nat} (x:Fin (n+1)):(Array.ofFn (fun i:Fin (n+1)=>i))[x.val]! =x:=by
 rw[getElem!_pos _ _ (by simp[x.isLt])];simp
theorem Ih (hm:P.follows .mixedOrders=true) (hC:AG P G0) (L:SlLaysF0.n6 P φ) {k:Nat} (hk:0<k) (aE:∀w,(isAgg (φ.t 24)).run P w= .ok true w) (zE:∀w,(Go.sizeOf (φ.t 24)).run P w= .ok k w) 
  (eg:∀g,gs g=true->∀args w,(callFunc g args).run P w= .ok (.enter g args) w) {f:Nat} {args:List Y} {V':D} {v:Y} (h:An P G0 (φ.f 6) k gs f args V=some (v,V')) (U:Ren) (w:World) (xs:Array Value) (hi:Inv U V w) (hg:GR U G0) (hx:di U args xs.toList):
  Calls P f xs w fun e w'=>∃x U',e= .returned x/\VR U' v x/\Inv U' V' w'/\eH U V w U' V' w':=by
 unfold An at h;split at h
 case isFalse=>cases h
 rename_i hf;subst hf;split at h
 ·
  cases h;rename_i u;obtain⟨x1,r1,e1,h1,h2⟩:=hx.cons_inv;obtain⟨x2,r2,e2,h3,h4⟩:=h2.cons_inv;obtain rfl:=h4.dX;subst e2;have Q:xs= #[x1,x2]:=by apply Array.toList_inj.1;rw[e1]
  subst Q;simp only[VR] at h1;subst h1;refine(AnyF.slices_SortFunc_none L none 0 x2 w).mono fun e w' ⟨he,hw⟩=>?_
  subst hw;exact⟨_,U,he,by simp only[VR];exact⟨#[],Z,di.nil⟩,hi,eH.refl _ _ _⟩
 ·rename_i b n c g;split at h
  case h_2=>cases h
  rename_i cells e hb;split at h
  case isFalse=>cases h
  rename_i hc;cases h;obtain⟨⟨hlen,hn,a2,am,R⟩,T⟩:=hc;have hch:Eb P G0 k g V b cells n (Classical.choose T):=Classical.choose_spec T;generalize Classical.choose T=cf at hch⊢;obtain⟨hO,ao⟩:=hch;obtain⟨x1,r1,e1,h1,h2⟩:=hx.cons_inv;obtain⟨x2,r2,e2,h3,h4⟩:=h2.cons_inv;obtain rfl:=h4.dX;subst e2;have Q:xs= #[x1,x2]:=by apply Array.toList_inj.1;rw[e1]
  subst Q
  have a3:x2= .func (.func g) #[] #[]:=by
   simp only[VR] at h3;obtain⟨fi,ca,h5,M,h7⟩:=h3;rw[h5,show fi= #[] from by apply Array.toList_inj.1;rw[M.dX],show ca= #[] from by apply Array.toList_inj.1;rw[h7.dX]]
  subst a3
  have a4:∃l cp,U b=some l/\x1= .slice (some ⟨l.de,l.sh,none⟩) (n+1) cp:=by
   cases c with
   | known c=>simp only[VR] at h1;obtain⟨l,h5,M⟩:=h1;exact⟨l,c,h5,M⟩
   | upto sz=>
    simp only[VR] at h1;obtain⟨l,h5,M⟩:=h1;rcases M with ⟨c,M,_⟩ | ⟨M,_⟩
    ·exact⟨l,c,h5,M⟩
    omega
   | least a sz=>cases am
  obtain⟨l,cp,hl,rfl⟩:=a4;obtain⟨c,fr,W,a5,a9,ap,aq⟩:=hi.row hb hl
  have A:∀t,t<(n+1)*k->∃u y,cells[t]? =some u/\c[l.sh+t]? =some y/\VR U u y/\y.oneCell'=true:=fun t C=>by
   have X:t<cells.length:=by omega
   obtain⟨y,ba,ar⟩:=ap t cells[t] (gC X);refine⟨_,y,gC X,ba,ar,lO (ma R cells[t] ?_) ar⟩;have:(cells.take ((n+1)*k))[t]? =some cells[t]:=by rw[List.getElem?_take,if_pos C];exact gC X
   exact gB_ this
  let enc:Fin (n+1)->List Value:=fun x=>(List.range k).map fun j=>c[l.sh+(x.val*k+j)]!
  have E:∀x,(enc x).length=k:=fun x=>by simp[enc]
  have aa:∀(x:Fin (n+1)) j,j<k->x.val*k+j<(n+1)*k:=fun x j hj=>by
   have:(x.val+1)*k<=(n+1)*k:=nM_ _ (by have:=x.isLt;omega);rw[Nat.add_mul,Nat.one_mul] at this;omega
  have F:∀(x:Fin (n+1)) j,j<k->∃u y,cells[x.val*k+j]? =some u/\(enc x)[j]? =some y/\VR U u y/\y.oneCell'=true:=fun x j hj=>by
   obtain⟨u,y,N,G,k3,k4⟩:=A _ (aa x j hj);refine⟨u,y,N,?_,k3,k4⟩;simp only[enc,gM_,zr_ hj,Option.map_some];rw[getElem!_def,G]
  have h1c:∀x,∀v∈enc x,v.oneCell'=true:=fun x v hv=>by
   obtain⟨j,hj,bb⟩:=List.getElem_of_mem hv;rw[E] at hj;obtain⟨u,y,_,G,_,k4⟩:=F x j hj;rw[gC (by rw[E];exact hj),bb] at G;cases G;exact k4
  have I:∀(d:Array (Fin (n+1))) t,t<d.size*k->(flatK enc k d)[t]! =c[l.sh+((d[t/k]!).val*k+t%k)]!:=fun d t C=>by
   rw[get_flatK _ _ _ _ C];have K:t%k<k:=Nat.mod_lt _ hk;show((List.range k).map _)[t%k]! =_;rw[getElem!_pos _ _ (by simp[K])];simp
  have hH:HoldsK enc k w l.de l.sh (Array.ofFn (fun i:Fin (n+1)=>i)):=fun t C=>by
   rw[size_flatK,Array.size_ofFn] at C;obtain⟨u,y,N,G,k3,k4⟩:=A t C;have hdiv:t/k<n+1:=Nat.div_lt_of_lt_mul (by rw[Nat.mul_comm];exact C);refine⟨?_,frozen?_of_heap W _<|aq Z _ oM⟩;rw[cell?_of_heap W,I _ _ (by rw[Array.size_ofFn];exact C)];rw[show(Array.ofFn (fun i:Fin (n+1)=>i))[t/k]! =⟨t/k,hdiv⟩ from NZ ⟨t/k,hdiv⟩];dsimp only;rw[Nat.div_add_mod' t k,G,getElem!_def,G];rfl
  have hblk:=hi.de b l hl
  have hW:∀(m:Nat) (os:Array Obj) (dk:Array (Fin (n+1))),Inv U (Qr V b) (sortWorldK enc k w l.de l.sh m dk os):=fun m os dk=>by
   refine hi.Qr hb Z hl ?_ fun r hr hne=>?_
   ·show w.heap.size<=((w.heap.modify l.de _)++os).size;simp
   show((w.heap.modify l.de _)++os)[r]? =_;rw[Array.getElem?_append_left (by simpa using hr),Array.getElem?_modify,if_neg<|Ne.symm hne]
  have ab:CmpLays P g #[] enc k cf l.de l.sh (Array.ofFn (fun i:Fin (n+1)=>i)).size w:=fun m os dk _ x y=>by
   have hv:∀z:Fin (n+1),VR U (I8 k cells z.val) (.agg (enc z).toArray):=fun z=>by
    unfold I8;simp only[VR];refine⟨_,Z,di.sub ?_ (E z) fun j hj=>?_⟩
    ·have:=aa z (k-1) oM;omega
    obtain⟨u,y,N,G,k3,_⟩:=F z j hj;exact⟨u,y,N,G,k3⟩
   refine(wC hm hC (hW m os dk) hg (xV _ _) (di.cons (hv x)<|di.cons (hv y) di.nil)<|ao x y).mono fun e w' ⟨v,z,_,U',he,bc,ax,bd⟩=>?_
   subst bd;simp only[VR] at ax;subst ax;exact⟨he,bc.grown⟩
  have a0:(Array.ofFn (fun i:Fin (n+1)=>i)).size=n+1:=Array.size_ofFn;have hcall:=AnyQ.slices_SortFunc_eq L k aE zE enc E h1c cf hO g #[] l.de l.sh cp (Array.ofFn (fun i:Fin (n+1)=>i)) w (eg g a2) ab hH hblk (by rw[a0];exact hn);rw[a0] at hcall;refine hcall.mono fun e' w' ⟨he,nd,os,be⟩=>?_
  subst be;change e'=_ at he;have hds:=uS hO;change∃x U',e'= .returned x/\VR U' (.tuple []) x/\Inv U' (V.setObj b (.row (fh k cells<|jR cf) e false)) (sortWorldK enc k w l.de l.sh nd (jR cf) os)/\eH U V w U' (V.setObj b (.row (fh k cells<|jR cf) e false)) (sortWorldK enc k w l.de l.sh nd (jR cf) os);generalize jR cf=d at hds⊢;refine⟨_,U,he,by simp only[VR];exact⟨#[],Z,di.nil⟩,?_⟩
  let w1:World:=putRowK enc k (Sort.ahead w nd) l.de l.sh d
  have bf:w1.heap[l.de]? =some (.cells (putCells id l.sh (flatK enc k d) c) e fr):=by
   show(w.heap.modify l.de _)[l.de]? =_;rw[Array.getElem?_modify,if_pos Z,W];rfl
  have ac:(fh k cells d).length=cells.length:=by
   unfold fh;rw[lA_,lM_,List.length_range,lD_,hds];omega
  have a1:gz U l (.row (fh k cells d) e false) (.cells (putCells id l.sh (flatK enc k d) c) e fr):=by
   refine⟨_,fr,Z,by unfold putCells;rw[Array.size_mapIdx];exact a5,by rw[ac];exact a9,fun t u hu=>?_,aq⟩;unfold putCells;rw[Array.getElem?_mapIdx,size_flatK,hds]
   by_cases C:t<(n+1)*k
   ·have hdiv:t/k<n+1:=Nat.div_lt_of_lt_mul (by rw[Nat.mul_comm];exact C);have K:t%k<k:=Nat.mod_lt _ hk;obtain⟨u',y,N,G,k3,_⟩:=A _ (aa (d[t/k]!) (t%k) K);obtain⟨_,y0,_,bg,_,_⟩:=A t C
    have bi:u=u':=by
     unfold fh at hu;rw[hds,gL_ (by rw[lM_,List.length_range];exact C),gM_,zr_ C] at hu;simp only[Option.map_some,oJ_] at hu;rw[<-hu,List.getD_eq_getElem?_getD,N];rfl
    subst bi;refine⟨y,?_,k3⟩;rw[bg];simp only[Option.map_some,id];rw[if_pos ⟨by omega,by omega⟩,Nat.add_sub_cancel_left,I d t (by rw[hds];exact C),getElem!_def,G]
   have bl:cells[t]? =some u:=by
    unfold fh at hu;rw[hds,gR_ (by rw[lM_,List.length_range];omega),lM_,List.length_range,List.getElem?_drop] at hu;rwa[Nat.add_sub_cancel' oM] at hu
   obtain⟨y,N,G⟩:=ap t u bl;refine⟨y,?_,G⟩;rw[N];simp only[Option.map_some];rw[if_neg oM]
  have hch:=hi.change (w':=w1) (o':=.row (fh k cells d) e false) hb hl Z Z bf a1 (fun r hr=>by
   show(w.heap.modify l.de _)[r]? =_;rw[Array.getElem?_modify,if_neg<|Ne.symm hr]) (by show(w.heap.modify l.de _).size=_;simp) Z Z ⟨Z,Nat.le_add_right _ _⟩
  have bm:iK w1 (Go.Sort.grow w1 os):=⟨Z,⟨Z,nR_ _⟩,Z,by show w1.heap.size<=(w1.heap++os).size;rw[Array.size_append];omega,fun r hr=>by show(w1.heap++os)[r]? =_;rw[Array.getElem?_append_left hr]⟩;obtain⟨i2,s2⟩:=bm.inv hch.1;exact⟨i2,hch.2.trans s2⟩
 cases h
end
end Go.Ev
namespace Go.Ev
variable [Env] {V:D} {φ:Go.Shelf.Ren}
open Go.Proofs Go.Shelf Go.RowKit Go.Lib Go.Sort
def BO:List Y->Option (List Int)
 | []=>some []
 | .int .i64 n::r=>(BO r).map (n::·)
 | _=>none
theorem Fh:∀{l:List Y} {zs:List Int},BO l=some zs->l=zs.map (.int .i64)
 | [],zs,h=>by cases h;rfl
 | v::r,zs,h=>by
  unfold BO at h;split at h
  ·rename_i h1;cases h1
  ·rename_i n r' h1;cases h1;obtain⟨zs',u,rfl⟩:=oM_.1 h;rw[Fh u];rfl
  cases h
theorem BP:∀zs:List Int,BO (zs.map (.int .i64))=some zs
 | []=>rfl
 | z::zs=>by
  show(BO<|zs.map (.int .i64)).map (z::·)=_
  rw[BP zs];rfl
def lG (zs:List Int):List Int:=zs.mergeSort fun x y=>decide (x<=y)
theorem kK (zs:List Int):(lG zs).length=zs.length:=List.length_mergeSort zs
def uR (F f:Nat) (args:List Y) (V:D):Option (Y×D):=
 if f=F then
  match args with
  | [.aw]=>some (.tuple [],V)
  | [.slice _ 0 0 (.known _)]=>some (.tuple [],V)
  | [.slice _ 0 0 (.upto _)]=>some (.tuple [],V)
  | [.slice b 0 (n+1) c]=>
   match V.m.get b with
   | some (.row cells e false)=>
    if n+1<=cells.length/\n+1<4611686018427387904/\EF c=true then
     match BO (cells.take (n+1)) with
     | some zs=>some (.tuple [],V.setObj b (.row ((lG zs).map (.int .i64)++cells.drop (n+1)) e false))
     | none=>none
    else none
   | _=>none
  | _=>none
 else none
section
variable {P:Program}
theorem F2 (L:SlLaysN.n53 P φ) {f:Nat} {args:List Y} {V':D} {v:Y} (h:uR (φ.f 53) f args V=some (v,V')) (U:Ren) (w:World) (xs:Array Value) (hi:Inv U V w) (hx:di U args xs.toList):
  Calls P f xs w fun e w'=>∃x U',e= .returned x/\VR U' v x/\Inv U' V' w'/\eH U V w U' V' w':=by
 unfold uR at h;split at h
 case isFalse=>cases h
 rename_i hf;subst hf;split at h
 ·cases h;obtain⟨F,r1,e1,h1,I⟩:=hx.cons_inv;obtain rfl:=I.dX;have A:xs= #[F]:=by apply Array.toList_inj.1;rw[e1]
  subst A;simp only[VR] at h1;subst h1;refine(AnyG.slices_Sort_int_none L none 0 w).mono fun e w' ⟨he,hw⟩=>?_
  subst hw;exact⟨_,U,he,by simp only[VR];exact⟨#[],Z,di.nil⟩,hi,eH.refl _ _ _⟩
 ·cases h;obtain⟨F,r1,e1,h1,I⟩:=hx.cons_inv;obtain rfl:=I.dX;have A:xs= #[F]:=by apply Array.toList_inj.1;rw[e1]
  subst A;simp only[VR] at h1;obtain⟨l,h5,rfl⟩:=h1;refine(AnyG.slices_Sort_int_none L _ _ w).mono fun e w' ⟨he,hw⟩=>?_
  subst hw;exact⟨_,U,he,by simp only[VR];exact⟨#[],Z,di.nil⟩,hi,eH.refl _ _ _⟩
 ·cases h;obtain⟨F,r1,e1,h1,I⟩:=hx.cons_inv;obtain rfl:=I.dX;have A:xs= #[F]:=by apply Array.toList_inj.1;rw[e1]
  subst A;simp only[VR] at h1;obtain⟨l,h5,C⟩:=h1
  have h7:∃p cp,F= .slice p 0 cp:=by
   rcases C with ⟨c,C,_⟩ | ⟨_,a,C⟩
   ·exact⟨_,_,C⟩
   exact⟨_,_,C⟩
  obtain⟨p,cp,rfl⟩:=h7;refine(AnyG.slices_Sort_int_none L _ _ w).mono fun e w' ⟨he,hw⟩=>?_
  subst hw;exact⟨_,U,he,by simp only[VR];exact⟨#[],Z,di.nil⟩,hi,eH.refl _ _ _⟩
 ·rename_i b n c;split at h
  case h_2=>cases h
  rename_i cells e hb;split at h
  case isFalse=>cases h
  rename_i hc;obtain⟨hlen,hn,R⟩:=hc;split at h
  case h_2=>cases h
  rename_i zs ab;cases h;have hz:=Fh ab
  have K:zs.length=n+1:=by
   have:=congrArg List.length hz;rw[lT_,lM_,Nat.min_eq_left hlen] at this;exact this.symm
  obtain⟨F,r1,e1,h1,I⟩:=hx.cons_inv;obtain rfl:=I.dX;have A:xs= #[F]:=by apply Array.toList_inj.1;rw[e1]
  subst A
  have ac:∃l cp,U b=some l/\F= .slice (some ⟨l.de,l.sh,none⟩) (n+1) cp:=by
   cases c with
   | known c=>simp only[VR] at h1;obtain⟨l,h5,C⟩:=h1;exact⟨l,c,h5,C⟩
   | upto sz=>
    simp only[VR] at h1;obtain⟨l,h5,C⟩:=h1;rcases C with ⟨c,C,_⟩ | ⟨C,_⟩
    ·exact⟨l,c,h5,C⟩
    omega
   | least a sz=>cases R
  obtain⟨l,cp,hl,rfl⟩:=ac;obtain⟨c,fr,M,am,ao,T,W⟩:=hi.row hb hl
  have E:∀t,(ht:t<n+1)->c[l.sh+t]? =some (.int .i64 (zs[t]'oM)):=fun t ht=>by
   have k1:cells[t]? =some (.int .i64 (zs[t]'oM)):=by
    have:(cells.take (n+1))[t]? =some (.int .i64 (zs[t]'oM)):=by rw[hz,gM_,gC oM];rfl
    rwa[List.getElem?_take,if_pos ht] at this
   obtain⟨y,ap,X⟩:=T t _ k1;simp only[VR] at X;rw[ap,X]
  have hH:Holds (Value.int .i64) w l.de l.sh zs.toArray:=fun j hj=>by
   rw[List.size_toArray,K] at hj;refine⟨?_,frozen?_of_heap M _<|W Z _ oM⟩;rw[cell?_of_heap M,E j hj];rw[getElem!_pos _ _ (by rw[List.size_toArray];omega)];rfl
  have hblk:=hi.de b l hl;have hcall:=AnyG.slices_Sort_int L l.de l.sh cp zs w hH hblk oM;rw[K] at hcall;refine hcall.mono fun e' w' ⟨he,nd,os,aq⟩=>?_
  subst aq;have G:(lG zs).length=n+1:=by rw[kK,K]
  change e'=_ at he;change∃x U',e'= .returned x/\VR U' (.tuple []) x/\Inv U' (V.setObj b (.row ((lG zs).map (.int .i64)++cells.drop (n+1)) e false)) (Go.Sort.grow (putRow (Value.int .i64) (Sort.ahead w nd) l.de l.sh (lG zs).toArray) os)/\eH U V w U' (V.setObj b (.row ((lG zs).map (.int .i64)++cells.drop (n+1)) e false)) (Go.Sort.grow (putRow (Value.int .i64) (Sort.ahead w nd) l.de l.sh (lG zs).toArray) os);generalize lG zs=d at G⊢;refine⟨_,U,he,by simp only[VR];exact⟨#[],Z,di.nil⟩,?_⟩
  let N:World:=putRow (Value.int .i64) (Sort.ahead w nd) l.de l.sh d.toArray
  have ar:N.heap[l.de]? =some (.cells (putCells (Value.int .i64) l.sh d.toArray c) e fr):=by
   show(w.heap.modify l.de _)[l.de]? =_;rw[Array.getElem?_modify,if_pos Z,M];rfl
  have Q:(d.map (Y.int .i64)++cells.drop (n+1)).length=cells.length:=by
   rw[lA_,lM_,lD_,G];omega
  have aa:gz U l (.row (d.map (Y.int .i64)++cells.drop (n+1)) e false) (.cells (putCells (Value.int .i64) l.sh d.toArray c) e fr):=by
   refine⟨_,fr,Z,by unfold putCells;rw[Array.size_mapIdx];exact am,by rw[Q];exact ao,fun t u hu=>?_,W⟩;unfold putCells;rw[Array.getElem?_mapIdx,List.size_toArray,G]
   by_cases ht:t<n+1
   ·rw[gL_ (by rw[lM_];omega),gM_,gC oM] at hu;cases hu;refine⟨.int .i64 (d[t]'oM),?_,by simp only[VR]⟩;rw[E t ht];simp only[Option.map_some];rw[if_pos ⟨by omega,by omega⟩,Nat.add_sub_cancel_left,getElem!_pos _ _ (by rw[List.size_toArray];omega)];rfl
   rw[gR_ (by rw[lM_];omega),lM_,List.getElem?_drop,G,Nat.add_sub_cancel' oM] at hu;obtain⟨y,k1,k2⟩:=T t u hu;refine⟨y,?_,k2⟩;rw[k1];simp only[Option.map_some];rw[if_neg oM]
  have hch:=hi.change (w':=N) (o':=.row (d.map (Y.int .i64)++cells.drop (n+1)) e false) hb hl Z Z ar aa (fun r hr=>by
   show(w.heap.modify l.de _)[r]? =_;rw[Array.getElem?_modify,if_neg<|Ne.symm hr]) (by show(w.heap.modify l.de _).size=_;simp) Z Z ⟨Z,Nat.le_add_right _ _⟩
  have ax:iK N (Go.Sort.grow N os):=⟨Z,⟨Z,nR_ _⟩,Z,by show N.heap.size<=(N.heap++os).size;rw[Array.size_append];omega,fun r hr=>by show(N.heap++os)[r]? =_;rw[Array.getElem?_append_left hr]⟩;obtain⟨i2,s2⟩:=ax.inv hch.1;exact⟨i2,hch.2.trans s2⟩
 cases h
end
end Go.Ev
namespace Go.Ev
variable [Env]
section
variable {α:Type} {c:α->α->Int}
theorem yz:∀(l:List α) (p x:α),ni c p (l++[x])=ni c p l++(if c x ((p::l).getLast (by simp))=0 then [] else [x])
 | [],p,x=>by
  show(if c x p=0 then [] else [x])=_;rfl
 | y::l,p,x=>by
  have ih:=yz l y x;show(if c y p=0 then ni c y (l++[x]) else y::ni c y (l++[x]))=(if c y p=0 then ni c y l else y::ni c y l)++_;rw[ih,List.getLast_cons<|List.cons_ne_nil _ _];split<;>simp
theorem tZ:∀(l:List α) (p:α),(ni c p l).length<=l.length
 | [],_=>nR_ _
 | y::l,p=>by
  have:=tZ l y;show(if c y p=0 then ni c y l else y::ni c y l).length<=_;split<;>simp<;>omega
theorem mq (l:List α):(dc c l).length<=l.length:=by
 cases l with
 | nil=>exact nR_ _
 | cons p l=>exact Nat.succ_le_succ (tZ l p)
theorem uc {l:List α} {i:Nat} {x y:α} (hy:l[i]? =some y) (hx:l[i+1]? =some x):dc c (l.take (i+2))=dc c (l.take (i+1))++(if c x y=0 then [] else [x]):=by
 cases l with
 | nil=>simp at hy
 | cons p l=>
  have A:l[i]? =some x:=by simpa using hx
  have e1:l.take (i+1)=l.take i++[x]:=by rw[zb_,A];rfl
  rw[show i+2=(i+1)+1 from Z,List.take_succ_cons,List.take_succ_cons];show p::ni c p (l.take (i+1))=p::(ni c p (l.take i)++_);refine congrArg (p::·) ?_
  have hq:=yz (c:=c) (l.take i) p x;rw[<-e1] at hq
  have u:(p::l.take i).getLast (by simp)=y:=by
   rw[List.getLast_eq_getElem];have hi:i<=l.length:=by have:=(gA.1 A).1;omega
   have C:(p::l.take i)[i]? =some y:=by rw[<-List.take_succ_cons,List.getElem?_take,if_pos oM];exact hy
   obtain⟨h3,E⟩:=gA.1 C;rw[<-E];congr 1;simp only[zc_,lT_];omega
  rw[u] at hq;rw[e1];rw[e1] at hq;exact hq
end
theorem C4 {α:Type} {c:α->α->Int} {l:List α} (h:2<=l.length):dc c (l.take (0+1))=l.take (0+1):=by
 cases l with
 | nil=>simp at h
 | cons x l=>rfl
theorem C5 {α:Type} {A l:List α} (h:A.length<=l.length):(A++l.drop A.length).length=l.length:=by rw[lA_,lD_];omega
theorem CT {α:Type} {A l:List α} {i:Nat} {x:α} (hx:l[i]? =some x) (h:A.length<=i):(A++l.drop A.length)[i]? =some x:=by
 rw[gR_ h,List.getElem?_drop,Nat.add_sub_cancel' h];exact hx
theorem OW {α:Type} {A l:List α} {x:α} (u:A.length<l.length):(A++l.drop A.length).set A.length x=(A++[x])++l.drop (A++[x]).length:=by
 rw[List.set_append_right _ _<|nR_ _,Nat.sub_self,zj_ u,List.set_cons_zero,lQ_,lA_];rfl
theorem AO {α:Type} {c:α->α->Int} {l:List α} (h:l.length<2):dc c l=l:=by
 match l,h with
 | [],_=>rfl
 | [x],_=>rfl
 | _::_::_,h=>simp at h;omega
def cz (x y:Int):Int:=bif bD x y then 0 else 1
theorem I5 {x y:Int} (h:bD x y=true):cz x y=0:=by unfold cz;rw[h];rfl
theorem SR {x y:Int} (h:bD x y=false):cz x y≠0:=by unfold cz;rw[h];decide
def lT (l:List Int):List Int:=dc cz (lG l)
theorem Pf (l:List Int):(lT l).length<=l.length:=Nat.le_trans (mq _) (by rw[kK];exact nR_ _)
end Go.Ev
end
