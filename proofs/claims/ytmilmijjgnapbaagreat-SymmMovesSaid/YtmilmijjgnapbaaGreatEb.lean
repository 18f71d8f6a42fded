/- Part of the proof: an evaluator of the model's code, rules for walks on it, walks. Without conditions. -/
import Derived.Test.YtmilmijjgnapbaaGreatEa
import Derived.RecoverIn
import Derived.TacticsIn
import Derived.OrdersIn
import Derived.Sort.LoopGhostIn
import Derived.Scope
import Derived.ProofKit
import Derived.LaidSub
import Derived.KernelRfl
set_option linter.unusedSectionVars false
set_option linter.unusedVariables false
set_option linter.unusedSimpArgs false
noncomputable section
namespace Go.Ev
variable [Env]
theorem wi {p q:Pos} (h:eh.beqP p q=true):p=q:=nB h
theorem ML {c d:uc} (h:eh.beqC c d=true):c=d:=by
 unfold eh.beqC at h
 grind [nB]
theorem F7 {x y:U} (h:eh.lh x y=true):x=y:=by
 unfold eh.lh at h;split at h
 ·grind
 ·rw[bA_,cW,decide_eq_true_eq] at h;rw[pK h.1,h.2]
 ·rw[lk,decide_eq_true_eq] at h;rw[h]
 ·rfl
 ·simp_all
 ·rw[bA_] at h;rw[wi h.1,nB h.2]
 ·rfl
 ·simp only[bA_] at h;grind [wi,nB,ML]
 ·rfl
 ·rw[wi h]
 ·rfl
 ·rfl
 ·simp_all
 ·simp only[bA_] at h;grind [nB,wi]
 cases h
theorem wh:∀{xs ys:List U},eh.beqL xs ys=true->xs=ys
 | [],[],_=>rfl
 | [],_::_,h=>by cases h
 | _::_,[],h=>by cases h
 | x::xs,y::ys,h=>by
  have h':(bif eh.lh x y then eh.beqL xs ys else false)=true:=h;rw[bE] at h';split at h'
  ·rename_i hb;rw[F7 hb,wh h']
  cases h'
theorem MK {x y:U} (h:eh x y=true):x=y:=by
 unfold eh at h;split at h
 ·rw[wh h]
 exact F7 h
theorem E1 (E:Nat->TypeId) {l:List (Nat×List U)} {b:Nat} {o:cD} (h:(KB l E).get b=some o):∃x∈l,x.1=b/\o= .row x.2 (E x.1) true:=by
 have key:∀(l:List (Nat×List U)) (m:PT cD),(l.foldl (fun m x=>m.put (some (.row x.2 (E x.1) true)) (posOf x.1)) m).get b=some o->(∃x∈l,x.1=b/\o= .row x.2 (E x.1) true)∨m.get b=some o:=by
  intro l;induction l with
  | nil=>simp_all
  | cons x l ih=>
   intro m h;rcases ih _ h with ⟨y,h1,h2⟩ | h
   ·grind
   rw[PT.lH] at h
   grind
 rcases key l _ h with h | h
 ·exact h
 rw[PT.kX] at h;cases h
section
variable {P:Program} {G:Cx} {J:dh} {V:aE} {w:World}
theorem Inv.putObj (hi:Inv J V w) {b:Pos} {l:Loc} {o o':cD} {x:Obj} (hb:V.m.get b=some o) (hl:J b=some l) (u:o.ro=false) (j:o'.ro=false) (z:gP J l o' x):
  Inv J (V.setObj b o') (w.putObj l.dF x)/\eW J V w J (V.setObj b o') (w.putObj l.dF x):=by
 have hlt:=hi.dF b l hl;exact hi.change hb hl u j (World.putObj_heap_same hlt) z (fun r A=>World.putObj_heap_other A) (by simp) Z Z Z
theorem C4 (u:∀g,G.ov g=true->wG P g) {ev:Operand->Option U} {f:Operand->Value} {o:Oper} {r:HR} (hi:Inv J V w) (m:ER J ev f o.op) (h:ey P G ev V o.op=r) (j:∀n,r≠ .err n):yL P J V w r ((execOp f o).run P w):=by
 subst h;unfold ey at j⊢;cases hk:kindOf P o.op with
 | pure=>
  rw[hk] at j;dsimp only at j⊢;cases hp:dI P ev o.op with
  | none=>simp_all
  | some v=>
   obtain⟨x,hx,hv⟩:=yj (P:=P) (w:=w) m hp;rw[hx];exact .val hv hi<|eW.refl J V w
 | read=>
  rw[hk] at j;dsimp only at j⊢;cases hp:gq P ev V o.op with
  | none=>simp_all
  | some v=>
   obtain⟨x,hx,hv⟩:=yu (P:=P) hi m hp;rw[hx];exact .val hv hi<|eW.refl J V w
 | alloc=>
  rw[hk] at j;dsimp only at j⊢;cases hp:fy P ev o.op with
  | none=>simp_all
  | some p=>
   obtain⟨ob,mk⟩:=p;obtain⟨x,ob',n,hx,aa,z,hv⟩:=vo (P:=P) (w:=w) m hp;obtain⟨inv,st⟩:=hi.alloc (l:=⟨w.heap.size,0,n⟩) Z z;rw[hx];exact .val (hv _ _<|dh.cG _ _ _) inv st
 | kY=>
  rw[hk] at j;exact Cy u hi m Z j
theorem vN {ev:Operand->Option U} {o:Oper} (j:∀n,ey P G ev V o.op≠ .err n) (c:Call):o.op≠ .defer c:=by
 intro e;rw[e] at j;exact j 16 Z
def OA (J:dh):Md->FrameMode->Prop
 | .ret,u=>u= .returning
 | .ki v,u=>∃x,u= .panicking [{v:=x,recovered:=false}]/\VR J v x
 | .RN v,u=>∃x,u= .panicking [{v:=x,recovered:=true}]/\VR J v x
theorem OA.mono {J J':dh} (h:J.le J'):∀{md:Md} {u:FrameMode},OA J md u->OA J' md u
 | .ret,_,h'=>h'
 | .ki _,_,⟨x,h1,j⟩=>⟨x,h1,VR.mono h _ _ j⟩
 | .RN _,_,⟨x,h1,j⟩=>⟨x,h1,VR.mono h _ _ j⟩
theorem OA.NG {J:dh}:∀{md:Md} {u:FrameMode},OA J md u->u≠ .run
 | .ret,u,h=>by have h:u= .returning:=h;subst h;simp
 | .ki v,u,⟨x,h1,j⟩=>by subst h1;simp
 | .RN v,u,⟨x,h1,j⟩=>by subst h1;simp
theorem pV {ih:j1} (K:Sound P G ih) {fn:Func} {m:Nat} {tmps:Array Value} {R:Ending->World->Prop}:∀(d:List DE) (ds:List Deferred) (md:Md) (V:aE) (j:Md) (z:aE) (J:dh) (w:World) (u:FrameMode),uE P G ih d md V=some (j,z)->DR J d ds->Inv J V w->GR J G->OA J md u->
  (∀(J':dh) (w':World) (u':FrameMode),Inv J' z w'->eW J V w J' z w'->OA J' j u'->LeavesIn Fence.wide m P fn tmps R [] u' w')->LeavesInM Fence.wide m P fn tmps R ds u w
 | [],ds,md,V,j,z,J,w,u,h,B,hi,C,hm,hk=>by
  have h':some (md,V)=some (j,z):=h;cases h';have:ds= []:=B;subst this;exact hk J w u hi (eW.refl J V w) hm
 | .mark b::d,ds,md,V,j,z,J,w,u,h,B,hi,C,hm,hk=>by
  obtain⟨l,r,hl,rfl,E⟩:=B
  have h':(match V.m.get b with
    | some .mark=>uE P G ih d md (V.setObj b .dead)
    | _=>none)=some (j,z):=h
  cases hb:V.m.get b with
  | none=>rw[hb] at h';cases h'
  | some o=>
   rw[hb] at h';cases o with
   | mark=>
    dsimp only at h';obtain⟨x,hx,F⟩:=hi.obj b _ l hb hl;have A:x= .deferred (some []):=F;subst A;obtain⟨inv,st⟩:=hi.putObj (o':=.dead) (x:=.deferred none) hb hl Z Z trivial;refine⟨hm.NG,.inl ⟨l.dF,w.putObj l.dF (.deferred none),Z,run_takeDeferred hx,?_⟩⟩;exact pV K d r md _ j z J _ u h' E inv C hm fun J' w' u' I st'=>hk J' w' u' I (st.trans st')
   | _=>cases h'
 | .call _ _ _::_,ds,md,V,j,z,J,w,u,h,B,hi,C,hm,hk=>by cases h
theorem ur {ih:j1} (B:Sound P G ih) {fn:Func} {m n:Nat} {t:PT U} {d:List DE} {md:Md} {r:KR} {a:Act} {u:FrameMode} {R:Ending->World->Prop} (h:yP P G ih fn md t d V=r) (aa:∀n,r≠ .err n) (hi:Inv J V w) (C:GR J G) (L:TR J t n a.tmps) (F:DR J d a.defers) (hm:OA J md u)
  (I:∀(J':dh) (w':World) (E:Ending),Inv J' r.heap w'->eW J V w J' r.heap w'->Qv J' r E->R E w'):LeavesInM Fence.wide m P fn a.tmps R a.defers u w:=by
 unfold yP at h;cases hl:uE P G ih d md V with
 | none=>grind
 | some q=>
  obtain⟨A,M⟩:=q;rw[hl] at h;cases A with
  | ret=>
   dsimp only at h;cases K:eG P fn t M with
   | none=>grind
   | some v=>
    rw[K] at h;subst h;refine pV B d a.defers md V _ _ J w u hl F hi C hm fun J' w' u' z st' j=>?_
    have j:u'= .returning:=j;subst j;obtain⟨x,hx,hv⟩:=yW (P:=P) z (L.mono<|st'.le hi) K;exact⟨x,hx,I J' w' _ z st' ⟨x,Z,hv⟩⟩
  | ki v=>
   dsimp only at h;subst h;refine pV B d a.defers md V _ _ J w u hl F hi C hm fun J' w' u' z st' j=>?_
   obtain⟨x,rfl,hv⟩:=j;exact I J' w' _ z st' ⟨x,Z,hv⟩
  | RN v=>grind
theorem y9 {ih:j1} (C:Sound P G ih) {f:Nat} {args:List U} {xs:Array Value} {r:KR} (h:mR P G ih f args V=r) (B:∀n,r≠ .err n) (hi:Inv J V w) (F:GR J G) (hx:dw J args xs.toList)
  (rl:Option Nat) (m:Nat) {R:Ending->World->Prop} (I:∀(J':dh) (w':World) (E:Ending),Inv J' r.heap w'->eW J V w J' r.heap w'->Qv J' r E->R E w'):CallsIn (lG rl) m P f xs w R:=by
 refine ss rl ?_;unfold mR at h;cases hf:P.funcs[f]? with
 | none=>grind
 | some fn=>
 rw[hf] at h;dsimp only at h;cases hb:fn.body with
 | none=>grind
 | some c=>
 cases K:rD fn.ntmps args with
 | none=>grind
 | some t=>
 rw[hb,K] at h;dsimp only at h;refine callsIn_of_wp_marks hf hb trivial ?_;have ht:=Ei K hx;cases hc:ih c t fn.ntmps [] none V with
 | err k=>grind
 | ok e t' d' L=>
  rw[hc] at h;have hcode:=fun(Q:Exit->Act->World->Prop) M=>C.run c t fn.ntmps [] none V e t' d' L hc J w {tmps:=xs++Array.replicate (fn.ntmps-xs.size) undef,defers:=[]} none m Q hi F ht Z trivial M
  cases e with
  | normal=>
   refine hcode _ fun J' w' a' u st z A E j=>?_
   have j:E= .normal:=j;subst j;exact ur C h B u (F.mono<|st.le hi) z A (md:=.ret) Z fun ρ₂ w₂ E i₂ s₂ j=>I ρ₂ w₂ E i₂ (st.trans s₂) j
  | ret=>
   refine hcode _ fun J' w' a' u st z A E j=>?_
   have j:E= .ret:=j;subst j;exact ur C h B u (F.mono<|st.le hi) z A (md:=.ret) Z fun ρ₂ w₂ E i₂ s₂ j=>I ρ₂ w₂ E i₂ (st.trans s₂) j
  | ki v=>
   refine hcode _ fun J' w' a' u st z A E j=>?_
   obtain⟨x,rfl,hv⟩:=j;exact ur C h B u (F.mono<|st.le hi) z A (md:=.ki v) ⟨x,Z,hv⟩ fun ρ₂ w₂ E i₂ s₂ j=>I ρ₂ w₂ E i₂ (st.trans s₂) j
  | exit i=>grind
  | goto i=>grind
theorem mS {ih:j1} (j:Sound P G ih) {f:Nat} {args:List U} {xs:Array Value} {V':aE} {v:U} (h:mR P G ih f args V= .ret v V') (hi:Inv J V w) (u:GR J G) (hx:dw J args xs.toList)
  (rl:Option Nat) (m:Nat) {R:Ending->World->Prop} (z:∀(J':dh) (w':World) (x:Value),Inv J' V' w'->eW J V w J' V' w'->VR J' v x->R (.returned x) w'):CallsIn (lG rl) m P f xs w R:=
 y9 j h (fun n h=>by cases h) hi u hx rl m fun J' w' E i s ⟨x,A,hv⟩=>by subst A;exact z J' w' x i s hv
theorem nO {J J':dh} {v:U} {x:Value} (h:ph v=true) (hv:VR J v x):VR J' v x:=by
 cases v<;>first | (simp[ph] at h;done) | (simp only[VR] at hv⊢;exact hv)
theorem sO {v:U} {l:List U} (h:fx (v::l)=true):ph v=true/\fx l=true:=by
 have h':(bif ph v then fx l else false)=true:=h
 simp_all
theorem kP:∀{l:List U},fx l=true->∀v∈l,ph v=true
 | [],_,v,hv=>by cases hv
 | x::l,h,v,hv=>by
  obtain⟨h1,j⟩:=sO h;rcases mQ_.1 hv with rfl | hv
  ·exact h1
  exact kP j v hv
theorem vj {J J':dh}:∀{vs:List U} {xs:List Value},fx vs=true->dw J vs xs->dw J' vs xs
 | [],xs,_,h=>by rw[h.eP];exact dw.nil
 | v::vs,xs,h,hv=>by
  obtain⟨h1,j⟩:=sO h;obtain⟨x,r,rfl,m,h4⟩:=hv.cons_inv;exact dw.cons (nO h1 m)<|vj j h4
theorem HG {x y:U} (h:Au x y=true):x=y:=by
 unfold Au at h;split at h
 ·grind
 ·rw[bA_,cW,decide_eq_true_eq] at h;rw[pK h.1,h.2]
 ·rw[lk,decide_eq_true_eq] at h;rw[h]
 ·rfl
 ·rfl
 ·rfl
 ·rfl
 ·rfl
 cases h
theorem oz:∀{xs ys:List U},qH xs ys=true->xs=ys
 | [],[],_=>rfl
 | [],_::_,h=>by cases h
 | _::_,[],h=>by cases h
 | x::xs,y::ys,h=>by
  have h':(bif Au x y then qH xs ys else false)=true:=h;rw[bE] at h';split at h'
  ·rename_i hb;rw[HG hb,oz h']
  cases h'
theorem yy (v:U):∀(n:Nat),GY n v=List.replicate n v
 | 0=>rfl
 | n+1=>by show v::GY n v=_;rw[yy v n,List.replicate_succ]
theorem ke.inv {w w':World} (hk:ke w w') (hi:Inv J V w):Inv J V w'/\eW J V w J V w':=
 hi.of ⟨⟨hi.fresh,fun b l hb=>Nat.lt_of_lt_of_le (hi.dF b l hb) hk.size,fun b o l hb hl=>let ⟨x,hx,j⟩:=hi.obj b o l hb hl;⟨x,by rw[hk.same _<|hi.dF b l hl];exact hx,j⟩,hi.inj⟩,
  ⟨fun _ _=>Z,nR_ _,hk.size,fun r m _=>hk.same r m,fun _ h _=>h,hk.tape,hk.os,hk.out⟩⟩
theorem Gk {b vb:Pos} {o o':cD} (x:Pos):(fC V b o vb o').m.get x=if x=vb then some o' else if x=b then some o else none:=by
 unfold fC;rw[PT.lH,PT.lH,PT.kX]
theorem Oe (hi:Inv J V w) {b vb:Pos} {o o₁ o':cD} {l:Loc} (hb:V.m.get b=some o) (aa:V.m.get vb=some o') (hl:J b=some l) (ab:o.ro=o₁.ro)
  (ho:∀x,gP J l o x->gP J l o₁ x):Inv J (fC V b o₁ vb o') w:=by
 have back:∀x q,(fC V b o₁ vb o').m.get x=some q->∃q',V.m.get x=some q'/\q.ro=q'.ro/\((x=b/\q=o₁)∨q=q'):=fun x q h=>by
  rw[Gk] at h
  grind
 refine⟨⟨fun x hx=>⟨(hi.fresh x hx).1,?_⟩,hi.dF,fun x q lx hx j=>?_,fun x y q r lx ly hx C j u he z=>?_⟩,hi.rP.size,hi.rP.same,fun r E ⟨x,q,l',h1,A,B,h4⟩=>?_⟩
 ·cases hq:(fC V b o₁ vb o').m.get x with
  | none=>rfl
  | some q=>
   obtain⟨q',h',_⟩:=back x q hq;rw[(hi.fresh x hx).2] at h';cases h'
 ·obtain⟨q',h',_,h''⟩:=back x q hx;obtain⟨y,C,E⟩:=hi.obj x q' lx h' j
  grind
 ·obtain⟨q',h1,A,_⟩:=back x q hx;obtain⟨r',B,h4,_⟩:=back y r C;rw[A,h4];exact hi.inj x y q' r' lx ly h1 B j u he z
 obtain⟨q',h5,F,_⟩:=back x q h1;exact hi.rP.no r E ⟨x,q',l',h5,by rw[<-F];exact A,B,h4⟩
theorem HZ (hi:Inv J V w) {b vb:Pos} {cells cells' vc:List U} {e ve:Nat} {l lv:Loc} (hb:V.m.get b=some (.row cells e false)) (K:V.m.get vb=some (.row vc ve false)) (Q:J b=some l) (A:J vb=some lv)
  (ao:b≠vb) {ρ₁:dh} {R:aE} {w₁:World} (i₁:Inv ρ₁ R w₁) (s₁:eW J (fC V b (.row cells' e false) vb (.row vc ve false)) w ρ₁ R w₁) {b₁:Pos} {l₁:Loc} {cs₁:List U} {o₁ k:Nat}
  (g₁:R.m.get b₁=some (.row cs₁ e false)) (hl₁:ρ₁ b₁=some l₁) (gv:R.m.get vb=some (.row vc ve false)) (hne₁:b₁≠vb) (ap:fx vc=true) (hk:o₁+k<=cs₁.length) (ar:fx ((cs₁.drop o₁).take k)=true):
  Ab (J.with V.next ⟨l₁.dF,l₁.sh+o₁,l₁.cells-o₁⟩) ((V.drop b).alloc (.row ((cs₁.drop o₁).take k) e false)) w₁/\
   eW J V w (J.with V.next ⟨l₁.dF,l₁.sh+o₁,l₁.cells-o₁⟩) ((V.drop b).alloc (.row ((cs₁.drop o₁).take k) e false)) w₁:=by
 have hle:=hi.wE ⟨l₁.dF,l₁.sh+o₁,l₁.cells-o₁⟩;have L:((V.drop b).alloc (.row ((cs₁.drop o₁).take k) e false)).m.get V.next=some (.row ((cs₁.drop o₁).take k) e false):=PT.dG _ _ _
 have am:∀x,x≠V.next->((V.drop b).alloc (.row ((cs₁.drop o₁).take k) e false)).m.get x=if x=b then none else V.m.get x:=fun x hx=>by
  show((V.m.put none b).put _ V.next).get x=_;rw[PT.dD _ _ _ _ hx,PT.lH]
 have rP:∀x q,x≠V.next->((V.drop b).alloc (.row ((cs₁.drop o₁).take k) e false)).m.get x=some q->x≠b/\V.m.get x=some q:=fun x q hx h=>by
  simp_all
 have hold:∀x lx,x≠V.next->(J.with V.next ⟨l₁.dF,l₁.sh+o₁,l₁.cells-o₁⟩) x=some lx->J x=some lx:=fun x lx hx h=>by rwa[dh.dY J _ hx] at h
 have X:∀x:Pos,x.num<V.next.num->x≠V.next:=fun x hx e=>by simp_all
 have S:∀r,Wr J (fC V b (.row cells' e false) vb (.row vc ve false)) r->r=l.dF∨r=lv.dF:=fun r ⟨x,q,lx,h1,F,C,h4⟩=>by
  rw[Gk] at h1
  grind
 have wrs:∀r,Wr J (fC V b (.row cells' e false) vb (.row vc ve false)) r->Wr J V r:=fun r h=>by
  rcases S r h with rfl | rfl
  ·exact⟨b,_,l,hb,Z,Q,Z⟩
  exact⟨vb,_,lv,K,Z,A,Z⟩
 have away:∀x q lx,x≠b->x≠vb->V.m.get x=some q->J x=some lx->lx.dF≠l.dF/\lx.dF≠lv.dF:=fun x q lx h1 F C h4=>by
  constructor
  ·intro he;have:=(hi.inj x b q _ lx l C hb h4 Q he h1).2;simp[cD.ro] at this
  intro he;have:=(hi.inj x vb q _ lx lv C K h4 A he F).2;simp[cD.ro] at this
 have an:∀x q lx,x≠b->V.m.get x=some q->J x=some lx->lx.dF≠l₁.dF:=fun x q lx h1 C h4 he=>by
  have hlt:=hi.dF x lx h4;have hw:Wr ρ₁ R lx.dF:=⟨b₁,_,l₁,g₁,Z,hl₁,he.symm⟩
  by_cases F:x=vb
  ·subst F;rw[A] at h4;cases h4;have E:ρ₁ x=some lv:=s₁.ext x (hi.Fc A) |>.trans A;have:=(i₁.inj b₁ x _ _ l₁ lv g₁ gv hl₁ E he.symm hne₁).1;simp[cD.ro] at this
  obtain⟨a1,a2⟩:=away x q lx h1 F C h4;rcases S _ (s₁.wr _ hw hlt) with h | h
  ·exact a1 h
  exact a2 h
 have flatObj:∀{l':Loc} {c:List U} {e':Nat} {y:Obj} {ρa ρb:dh},fx c=true->gP ρa l' (.row c e' false) y->gP ρb l' (.row c e' false) y:=fun hc ho=>by
  obtain⟨c',fr,h1,F,C,h4,h5⟩:=ho;exact⟨c',fr,h1,F,C,fun i v hv=>let ⟨z,hz,aa⟩:=h4 i v hv;⟨z,hz,nO (kP hc v<|gB_ hv) aa⟩,h5⟩
 constructor
 ·refine⟨fun x hx=>?_,fun x lx u=>?_,fun x q lx hx u=>?_,fun x y q r lx ly hx W u ab he T=>?_⟩
  ·have I:V.next.num+1<=x.num:=by simpa [aE.alloc,aE.drop,Pos.iT] using hx
   have B:x≠V.next:=fun e=>by subst e;omega
   have hf:=hi.fresh x oM
   grind [dh.dY]
  ·by_cases B:x=V.next
   ·subst B;rw[dh.cG] at u;cases u;exact i₁.dF b₁ l₁ hl₁
   exact Nat.lt_of_lt_of_le (hi.dF x lx<|hold x lx B u) s₁.size
  ·by_cases B:x=V.next
   ·subst B;rw[L] at hx;rw[dh.cG] at u;cases hx;cases u;obtain⟨c,fr,h1,F,C,h4,h5⟩:=i₁.row g₁ hl₁;refine⟨_,h1,c,fr,Z,?_,?_,fun i v hv=>?_,fun _ j hj=>h5 Z j (by grind)⟩
    ·grind
    ·grind
    grind [nO,kP]
   obtain⟨a0,I⟩:=rP x q B hx;have hlx':=hold x lx B u
   by_cases ac:x=vb
   ·subst ac;rw[K] at I;cases I;rw[A] at hlx';cases hlx';have E:ρ₁ x=some lv:=(s₁.ext x<|hi.Fc A).trans A;obtain⟨y,W,M⟩:=i₁.obj x _ lv gv E
    grind
   obtain⟨y,W,M⟩:=hi.obj x q lx I hlx';refine⟨y,?_,M.mono hle⟩;rw[s₁.frame _ (hi.dF x lx hlx') (fun h=>?_)]
   ·exact W
   grind
  by_cases e1:x=V.next<;>by_cases e2:y=V.next
  ·simp_all
  ·grind [dh.cG]
  ·grind [dh.cG]
  exact hi.inj x y q r lx ly (rP x q e1 hx).2 (rP y r e2 W).2 (hold x lx e1 u) (hold y ly e2 ab) he T
 refine⟨fun x hx=>dh.dY J _ (X x hx),by simp[aE.alloc,aE.drop,Pos.iT],s₁.size,fun r M hn=>s₁.frame r M fun h=>hn (wrs r h),?_,s₁.tape,s₁.os,s₁.out⟩;rintro r ⟨x,q,lx,h1,F,C,rfl⟩ M
 by_cases e1:x=V.next
 ·subst e1;rw[dh.cG] at C;cases C;exact wrs _ (s₁.wr _ ⟨b₁,_,l₁,g₁,Z,hl₁,Z⟩ M)
 exact⟨x,q,lx,(rP x q e1 h1).2,F,hold x lx e1 C,Z⟩
theorem EY (hi:Inv J V w) {b vb:Pos} {cells cells' vc:List U} {e ve:Nat} {l lv:Loc} (hb:V.m.get b=some (.row cells e false)) (u:V.m.get vb=some (.row vc ve false)) (z:J b=some l) (A:J vb=some lv)
  (B:b≠vb) {ρ₁:dh} {j:aE} {w₁:World} (i₁:Inv ρ₁ j w₁) (s₁:eW J (fC V b (.row cells' e false) vb (.row vc ve false)) w ρ₁ j w₁) {b₁:Pos} {l₁:Loc} {cs₁:List U} {o₁ k:Nat}
  (g₁:j.m.get b₁=some (.row cs₁ e false)) (hl₁:ρ₁ b₁=some l₁) (gv:j.m.get vb=some (.row vc ve false)) (hne₁:b₁≠vb) (C:fx vc=true) (hk:o₁+k<=cs₁.length) (E:fx ((cs₁.drop o₁).take k)=true):
  Inv (J.with V.next ⟨l₁.dF,l₁.sh+o₁,l₁.cells-o₁⟩) ((V.drop b).alloc (.row ((cs₁.drop o₁).take k) e false)) w₁/\
   eW J V w (J.with V.next ⟨l₁.dF,l₁.sh+o₁,l₁.cells-o₁⟩) ((V.drop b).alloc (.row ((cs₁.drop o₁).take k) e false)) w₁:=hi.of (HZ hi hb u z A B i₁ s₁ g₁ hl₁ gv hne₁ C hk E)
theorem Fb {r:KR} {v:U} {V':aE} (h:uI r= .ret v V'):r= .ret v V':=by
 unfold uI at h
 grind
theorem Fa (r:KR) (v:U) (V':aE):uI r≠ .ki v V':=by
 unfold uI
 grind
theorem ES {ih:j1} (hS:Sound P G ih) {f:Nat} {args:List U} {xs:Array Value} {V':aE} {v:U} (h:Kh P G ih f args V= .ret v V') (hi:Inv J V w) (hg:GR J G) (hx:dw J args xs.toList)
  (rl:Option Nat) (m:Nat) {R:Ending->World->Prop} (X:∀(J':dh) (w':World) (x:Value),Inv J' V' w'->eW J V w J' V' w'->VR J' v x->R (.returned x) w'):CallsIn (lG rl) m P f xs w R:=by
 unfold Kh at h;split at h
 ·rename_i b off n sz i vb voff q mc;split at h
  ·rename_i cells e vc ve hb I;rw[bE] at h;split at h
   ·rename_i hc;simp only[bA_,nE_,Nat.beq_eq,bY] at hc;obtain⟨K,a9,ab,bb,ac,hlen⟩:=hc;subst ab;have L:b≠vb:=fun e=>by subst e;rw[oT] at K;simp at K
    split at h
    ·rename_i z r1 n2 r2 am an;rw[bE] at h;split at h
     ·rename_i hq;rw[bA_] at hq;have en:=nB hq.1;have er:=oz hq.2;subst en;subst er;cases h;obtain⟨x1,rr,e1,hs,ao⟩:=hx.cons_inv;obtain⟨x2,rr',rfl,bd,ap⟩:=ao.cons_inv;obtain⟨x3,rr'',rfl,ar,a0⟩:=ap.cons_inv;have:=a0.eP;subst this;simp only[VR] at hs;obtain⟨l,hl,hd⟩:=hs
      have a1:∃c,x1= .slice (some ⟨l.dF,l.sh+off,none⟩) n c/\n<=c/\off+c*sz=l.cells:=by
       grind
      obtain⟨c,rfl,be,aa⟩:=a1;have hvv':=ar;simp only[VR] at hvv';obtain⟨lv,a2,_⟩:=hvv'
      have go:∀(cells':List U) (cap:uc) (okc:uc->Nat->Bool),(∀x,gP J l (.row cells e false) x->gP J l (.row cells' e false) x)->
        wq vb vc ve e sz (mR P G ih f [.slice b off n cap,i,.slice vb voff 1 (.known mc)]<|fC V b (.row cells' e false) vb (.row vc ve false)) okc=some (z,r1)->
        VR J (.slice b off n cap) (.slice (some ⟨l.dF,l.sh+off,none⟩) n c)->
        (∀B A C z l1 E x,okc B z=true->1<=z->E A=some l1->VR E (.slice A C z B) x->∃c',x= .slice (some ⟨l1.dF,l1.sh+C,none⟩) z c'/\z<=c'/\C+c'*sz=l1.cells)->
        CallsIn (lG rl) m P f xs w R:=by
       intro cells' cap okc M u a8 a3;unfold wq at u;split at u
       ·rename_i A C bi B σ1 F;split at u
        ·rename_i bk bl bm bo g1 gv;rw[bE] at u;split at u
         ·rename_i Q;simp only[bA_,nE_,Nat.beq_eq,bY] at Q;obtain⟨k1,k2,k3,k4,k5,k6,k7,k8⟩:=Q;cases u;have S:A≠vb:=fun e=>by subst e;rw[oT] at k2;simp at k2
          have ev:=oz k3;subst ev;subst k4;subst k5;have hiL:=Oe hi (o₁:=.row cells' e false) hb I hl Z M;refine mS hS F hiL hg ?_ rl m fun E w1 x i1 s1 T=>?_
          ·grind [dw.cons]
          obtain⟨l1,W⟩:∃l1,E A=some l1:=by
           cases B<;>simp only[VR] at T
           ·grind
           ·grind
           grind
          obtain⟨c',rfl,a4,bp⟩:=a3 B A C z l1 E x k1 k6 W T;rw[dR,eA] at k8 X;obtain⟨iJ,sJ⟩:=EY (k:=z*sz) hi hb I hl a2 L i1 s1 g1 W gv S ac k7 k8;refine X _ w1 _ iJ sJ ?_;simp only[VR];refine⟨_,dh.cG _ _ _,.inl ⟨c',Z,a4,?_⟩⟩
          grind
         cases u
        cases u
       cases u
      by_cases a5:c=n
      ·subst a5;refine go cells (.known c) (EX sz) (fun _ h=>h) am (by simp only[VR];simp_all) fun B A C z l1 E x h1 h2 h3 h4=>?_
       unfold EX at h1
       grind [nB,VR]
      have a6:n+1<=c:=by omega
      refine go (gL (takeN cells (off+n*sz))<|GY sz .any) (.least (Nat.succ n) sz) (AG sz) (fun x ho=>?_) an (by simp only[VR];simp_all) fun B A C z l1 E x h1 h2 h3 h4=>?_
      ·obtain⟨cc,fr,h1,h2,h3,h4,h5⟩:=ho;have hmul:(n+1)*sz<=c*sz:=nM_ _ a6;have bq:(n+1)*sz=n*sz+sz:=Nat.succ_mul n sz;refine⟨cc,fr,h1,h2,?_,fun j v hv=>?_,h5⟩
       ·rw[eb,dR,yy,lA_,lT_,List.length_replicate];omega
       rw[eb,dR,yy] at hv
       by_cases hj:j<off+n*sz
       ·grind
       have a7:j<(cells.take (off+n*sz)++List.replicate sz U.any).length:=(gA.1 hv).1;rw[lA_,lT_,List.length_replicate] at a7;rw[gR_ (by simp_all),List.getElem?_replicate] at hv;split at hv
       ·cases hv;have:l.sh+j<cc.size:=by omega
        exact⟨cc[l.sh+j],aG_ this,by simp only[VR]⟩
       cases hv
      unfold AG at h1;split at h1
      ·rename_i a s;rw[bA_,nE_] at h1
       grind [nB,VR]
      cases h1
     cases h
    cases h
   cases h
  cases h
 exact mS hS h hi hg hx rl m X
theorem GR.size (hi:Inv J V w) (j:GR J G):G.gl<=w.heap.size:=by
 cases aa:G.gl with
 | zero=>exact Nat.zero_le _
 | succ g=>
  obtain⟨c,hc⟩:=j g oM;have:=hi.dF _ _ hc;exact this
theorem te (hi:Inv J V w) (B:GR J G):∀(l:List (Nat×List U)),uD G.gl V l=true->∀x∈l,uf w x
 | [],_,x,hx=>by cases hx
 | y::l,h,x,hx=>by
  have h':(bif Nat.ble (Nat.succ y.1) G.gl then(match V.m.get y.1 with
   | some (.row cells _ true)=>bif fx y.2 then(bif qH cells y.2 then uD G.gl V l else false) else false
   | _=>false) else false)=true:=h
  rw[bE] at h';split at h'
  ·rename_i j;rw[nE_] at j;split at h'
   ·rename_i cells e hb;rw[bE] at h';split at h'
    ·rename_i hf;rw[bE] at h';split at h'
     ·rename_i he;have:=oz he;subst this;rcases mQ_.1 hx with rfl | hx
      ·obtain⟨cn,hc⟩:=B x.1 j;obtain⟨c,fr,h1,C,E,h4,_⟩:=hi.row hb hc;have u:c.size=cn:=by simpa using C
       have A:x.2.length<=cn:=E;refine⟨c,e,fr,h1,by rw[u];exact A,fun i v hv=>?_⟩;obtain⟨z,F,aa⟩:=h4 i v hv;simp only[nA_] at F
       grind [nO,kP]
      exact te hi B l h' x hx
     cases h'
    cases h'
   cases h'
  cases h'
theorem sj {ih:j1} (j:Sound P G ih) {f:Nat} {args:List U} {xs:Array Value} {V':aE} {v:U} (h:lr P G ih f args V= .ret v V') (hi:Inv J V w) (z:GR J G) (hx:dw J args xs.toList)
  (rl:Option Nat) (m:Nat) {R:Ending->World->Prop} (F:∀(J':dh) (w':World) (x:Value),Inv J' V' w'->eW J V w J' V' w'->VR J' v x->R (.returned x) w'):CallsIn (lG rl) m P f xs w R:=by
 unfold lr at h;cases hk:G.Kx f args V with
 | some u=>
  rw[hk] at h;dsimp only at h;rw[bE] at h;split at h
  ·rename_i hf;cases h;refine ss rl<|callsIn_wide.2 ?_;refine(j.cx.Kx f args V v hk J w xs hi hx).mono fun e w' ⟨x,J',he,hv,i',s'⟩=>?_
   grind
  cases h
 | none=>
 rw[hk] at h;dsimp only at h;cases A:G.LX f args with
 | some u=>
  rw[A] at h;dsimp only at h;rw[bE] at h;split at h
  ·rename_i hf;simp only[bA_] at hf;obtain⟨B,C,E⟩:=hf;cases h;refine ss rl<|callsIn_wide.2 ?_;refine(j.cx.LX f args v A w xs (GR.size hi z) ⟨hi.rP.size,hi.rP.same⟩ (te hi z _ E)<|vj B hx).mono fun e w' ⟨x,he,hv,hk⟩=>?_
   subst he;obtain⟨i',s'⟩:=hk.inv hi;exact F J w' x i' s'<|nO C hv
  cases h
 | none=>
  rw[A] at h;dsimp only at h;split at h
  ·cases h
  rw[bE] at h;split at h
  ·have h:=Fb h;unfold Ki at h;rw[bE] at h
   grind [mS,ES]
  exact mS j h hi z hx rl m F
theorem Ju {ih:j1} (j:Sound P G ih) {f:Nat} {args:List U} {xs:Array Value} {V':aE} {v:U} (h:lr P G ih f args V= .ki v V') (hi:Inv J V w) (z:GR J G) (hx:dw J args xs.toList)
  (rl:Option Nat) (m:Nat) {R:Ending->World->Prop} (A:∀(J':dh) (w':World) (x:Value),Inv J' V' w'->eW J V w J' V' w'->VR J' v x->R (.panicked [{v:=x,recovered:=false}]) w'):CallsIn (lG rl) m P f xs w R:=by
 unfold lr at h;cases hk:G.Kx f args V with
 | some u=>grind
 | none=>
 rw[hk] at h;dsimp only at h;split at h
 ·grind
 split at h
 ·cases h
 rw[bE] at h;split at h
 ·exact absurd h<|Fa _ _ _
 exact y9 j h (fun n h=>by cases h) hi z hx rl m fun J' w' E i s ⟨x,B,hv⟩=>by subst B;exact A J' w' x i s hv
theorem zB (e:Ex) (hp:zA e=false):(uC e).isNone=Bz e:=by cases e<;>first | rfl | cases hp
theorem RS.Nj {e:Ex} {E:Exit} (hp:zA e=false) (h:RS J e E):E=Ev.Nj e:=by cases e<;>first | exact h | cases hp
theorem Fy {l:Nat} {R:Ending->World->Prop} {e:Ex} (hp:zA e=false) {a:Act} (h:∃v w',(Instr.endRound l<|uC e).run P w= .ok v w'/\R (.returned v) w'):roundPost P l R (Nj e) a w:=by
 cases e<;>first | exact h | cases hp
theorem Dm {ih:j1} (hS:Sound P G ih) {b:Pos} {l:Loc} {args:List U} {xs:Array Value} {V':aE} {v:U} (h:mB ih b args V= .ret v V') (hi:Inv J V w) (hg:GR J G) (hx:dw J args xs.toList) (hl:J b=some l)
  (rl:Option Nat) (m:Nat) {R:Ending->World->Prop} (hR:∀(J':dh) (w':World) (x:Value),Inv J' V' w'->eW J V w J' V' w'->VR J' v x->R (.returned x) w'):
  ∃f tmps assign body,(Instr.yield l.dF xs).run P w= .ok (.round l.dF f tmps assign body) w/\RoundIn (lG rl) m P l.dF f tmps assign body w R:=by
 unfold mB at h;cases hb:V.m.get b with
 | none=>rw[hb] at h;cases h
 | some o=>
 rw[hb] at h;cases o with
 | loop state pending tmps n params assign body df=>
  dsimp only at h;cases hp:uN n params args tmps with
  | none=>rw[hp] at h;cases h
  | some t=>
  rw[hp] at h;dsimp only at h;obtain⟨x,hh,fn,tmps',l',rfl,a4,a0⟩:=hi.obj b _ l hb hl;obtain⟨hlen,ht⟩:=tB params args tmps t tmps' xs.toList hp a0 hx;refine⟨fn,_,assign,body,run_yield hh (by simpa using hlen.symm),?_⟩
  have I:((params.toArray.zip xs).foldl (fun tmps (t,a)=>tmps.setIfInBounds t a) tmps')=(params.zip xs.toList).foldl (fun tmps (t,a)=>tmps.setIfInBounds t a) tmps':=by
   rw[<-Array.foldl_toList,Array.toList_zip]
  refine roundIn_of_wpIn (mX rl _) ?_;rw[Nm];dsimp only;rw[I];cases hc:ih assign t n [] (some b) V with
  | err k=>rw[hc] at h;cases h
  | ok e t₁ d₁ V1=>
  rw[hc] at h;cases e with
  | normal=>
   cases d₁ with
   | nil=>
    dsimp only at h;refine hS.run assign t n [] (some b) V _ t₁ [] V1 hc J w _ (some l.dF) m _ hi hg ht Z ⟨l,hl,Z⟩ fun ρ₁ w₁ a₁ hi₁ st₁ ht₁ a1 E hE=>?_
    have hE:E= .normal:=hE;subst hE;have hl₁:=st₁.le hi b l hl;have hg₁:=hg.mono (st₁.le hi);show∃w₂,_;cases hb₁:V1.m.get b with
    | none=>rw[hb₁] at h;cases h
    | some o₁=>
    rw[hb₁] at h;cases o₁ with
    | loop F p₁ B n₁ params₁ assign1 u L=>
     cases F with
     | ready=>
      dsimp only at h;obtain⟨x₁,hh₁,M,z,Q,rfl,S,T⟩:=hi₁.obj b _ l hb₁ hl₁;obtain⟨inv₂,st₂⟩:=hi₁.putObj (o':=.loop .busy p₁ B n₁ params₁ assign1 u L) hb₁ hl₁ Z Z (x:=.loop {state:=.busy,pending:=p₁,fn:=M,tmps:=z,params:=params₁.toArray,assign:=assign1,body:=u,defers:=Q.dF}) ⟨M,z,Q,Z,S,T⟩;refine⟨_,run_beginRound hh₁ Z,?_⟩;cases hc₂:ih body t₁ n [] (some b) (V1.setObj b (.loop .busy p₁ B n₁ params₁ assign1 u L)) with
      | err k=>rw[hc₂] at h;cases h
      | ok e₂ t₂ d₂ V2=>
      rw[hc₂] at h;cases d₂ with
      | cons _ _=>cases h
      | nil=>
      dsimp only at h;cases j:zA e₂ with
      | true=>rw[j] at h;cases h
      | false=>
      rw[j] at h;simp only[cond_false] at h;refine hS.run body t₁ n [] (some b) _ e₂ t₂ [] V2 hc₂ ρ₁ _ a₁ (some l.dF) m _ inv₂ hg₁ ht₁ a1 ⟨l,hl₁,Z⟩ fun ρ₃ w₃ a₃ W X a5 a6 E hE=>?_
      have hE:=hE.Nj j;subst hE;have hl₃:=X.le inv₂ b l hl₁;cases hb₃:V2.m.get b with
      | none=>rw[hb₃] at h;cases h
      | some o₃=>
      rw[hb₃] at h;cases o₃ with
      | loop ap p₃ K n₃ params₃ assign3 C a2=>
       dsimp only at h;cases h;obtain⟨x₃,hh₃,aa,A,ab,rfl,ac,am⟩:=W.obj b _ l hb₃ hl₃;have ar:(if(uC e₂).isNone then LoopState.ready else .done)=tM e₂:=by cases e₂<;>first | rfl | cases j
       obtain⟨an,a3⟩:=W.putObj (o':=.loop (tM e₂) (uC e₂) K n₃ params₃ assign3 C a2) hb₃ hl₃ Z Z
        (x:=.loop {state:=tM e₂,pending:=uC e₂,fn:=aa,tmps:=A,params:=params₃.toArray,assign:=assign3,body:=C,defers:=ab.dF}) ⟨aa,A,ab,Z,ac,am⟩
       refine Fy j ⟨.bool<|Bz e₂,_,?_,hR ρ₃ _ _ an (((st₁.trans st₂).trans X).trans a3) (by simp only[VR])⟩;rw[run_endRound _ hh₃,zB _ j];have ao:(if Bz e₂=true then LoopState.ready else .done)=tM e₂:=by rw[<-zB _ j];exact ar
       rw[ao]
      | _=>cases h
     | _=>cases h
    | _=>cases h
   | cons _ _=>cases h
  | _=>cases h
 | _=>cases h
theorem HE {ih:j1} (z:Sound P G ih) {o:Oper} {r:HR} {res:Result Next} {v:U} {V':aE} (hi:Inv J V w) (A:GR J G) (B:yL P J V w r res) (h:lj P G ih r= .ret v V') (rl:Option Nat) (m:Nat) {a:Act} {next:Act->World->Prop} {Q:Exit->Act->World->Prop}
  (u:∀(J':dh) (w':World) (x:Value),Inv J' V' w'->eW J V w J' V' w'->VR J' v x->next (a.put o.dst x) w'):o.uponIn (lG rl) m P a next Q res:=by
 cases B with
 | val hv j st=>
  cases h;rw[Oper.uponIn_value]
  grind
 | skip j st=>
  cases h;rw[Oper.uponIn_skip];exact u _ _ _ j st wg
 | enter hv=>
  rw[Oper.uponIn_enter];exact⟨qJ rl m,sj z h hi A hv rl _ fun J' w' x i s q=>u J' w' x i s q⟩
 | round hv hl C=>
  subst C
  obtain⟨f,tmps,assign,body,h1,E⟩:=Dm z h hi A hv hl rl (m-1) (R:=fun
   | .returned v,w''=>next (a.put o.dst v) w''
   | .panicked chain,w''=>Q (.panic chain) a w''
   | .outgrown,_=>LetsOut Q) (fun J' w' x i s q=>u J' w' x i s q)
  rw[h1,Oper.uponIn_round];exact⟨qJ rl m,E⟩
 | ki hv=>cases h
theorem Fx {ih:j1} {l:Pos} {args:List U} {v:U} {V':aE}:mB ih l args V≠ .ki v V':=by
 intro h;unfold mB at h
 repeat' (first | (cases h;done) | (rw[bE] at h) | split at h)
theorem Nf {ih:j1} (u:Sound P G ih) {o:Oper} {r:HR} {res:Result Next} {v:U} {V':aE} (hi:Inv J V w) (z:GR J G) (A:yL P J V w r res) (h:lj P G ih r= .ki v V') (rl:Option Nat) (m:Nat) {a:Act} {next:Act->World->Prop} {Q:Exit->Act->World->Prop}
  (B:∀(J':dh) (w':World) (x:Value),Inv J' V' w'->eW J V w J' V' w'->VR J' v x->Q (.panic [{v:=x,recovered:=false}]) a w'):o.uponIn (lG rl) m P a next Q res:=by
 cases A with
 | val hv j st=>cases h
 | skip j st=>cases h
 | enter hv=>
  rw[Oper.uponIn_enter];exact⟨qJ rl m,Ju u h hi z hv rl _ fun J' w' x i s q=>B J' w' x i s q⟩
 | round hv hl hr=>exact absurd h Fx
 | ki hv=>
  cases h
  grind [Oper.uponIn_panic,eW.refl]
theorem Ar {ih:j1} {r:HR} {v:U} {V':aE} (h:lj P G ih r= .ki v V') (n:Nat):r≠ .err n:=by
 intro e;subst e;cases h
theorem NL {ih:j1} (j:Sound P G ih) {ev:Operand->Option U} {o:Oper} {a:Act} {v:U} {V':aE} (hi:Inv J V w) (u:GR J G) (z:ER J ev a.eval o.op) (h:lj P G ih (ey P G ev V o.op)= .ki v V') (rl:Option Nat) (m:Nat) {next:Act->World->Prop} {Q:Exit->Act->World->Prop}
  (A:∀(J':dh) (w':World) (x:Value),Inv J' V' w'->eW J V w J' V' w'->VR J' v x->Q (.panic [{v:=x,recovered:=false}]) a w'):o.wpIn (lG rl) m P a w next Q:=by
 have hne:=Ar h;refine⟨fun f _=>mX rl f,?_⟩;rw[Oper.semAt_eq _ _ _<|vN hne];exact Nf j hi u (C4 j.cx.ov hi z Z hne) h rl m A
theorem Ci {ih:j1} {r:HR} {v:U} {V':aE} (h:lj P G ih r= .ret v V') (n:Nat):r≠ .err n:=by
 intro e;subst e;cases h
theorem C3 {ih:j1} (j:Sound P G ih) {ev:Operand->Option U} {o:Oper} {a:Act} {v:U} {V':aE} (hi:Inv J V w) (u:GR J G) (z:ER J ev a.eval o.op) (h:lj P G ih (ey P G ev V o.op)= .ret v V') (rl:Option Nat) (m:Nat) {next:Act->World->Prop} {Q:Exit->Act->World->Prop}
  (A:∀(J':dh) (w':World) (x:Value),Inv J' V' w'->eW J V w J' V' w'->VR J' v x->next (a.put o.dst x) w'):o.wpIn (lG rl) m P a w next Q:=by
 have hne:=Ci h;refine⟨fun f _=>mX rl f,?_⟩;rw[Oper.semAt_eq _ _ _<|vN hne];exact HE j hi u (C4 j.cx.ov hi z Z hne) h rl m A
theorem uK {ih:j1} (C:Sound P G ih) {ops:Array Oper} {n m:Nat} {d:List DE} (rl:Option Nat) {Q:Exit->Act->World->Prop} {e:Ex} {t':PT U} {d':List DE} {V':aE}:
  ∀(l:List Oper) (i:Nat),ops.toList.drop i=l->∀(t:PT U) (V:aE) (J:dh) (w:World) (a:Act),Cr d (tw P G ih ops n d l t V)= .ok e t' d' V'->Inv J V w->GR J G->TR J t n a.tmps->DR J d a.defers->
   (∀(J':dh) (w':World) (a':Act),Inv J' V' w'->eW J V w J' V' w'->TR J' t' n a'.tmps->DR J' d' a'.defers->Qx Q J' e a' w')->wpOpsIn (lG rl) m P ops Q (List.range' i l.length) a w
 | [],i,hl,t,V,J,w,a,h,hi,u,j,z,A=>by
  have h':CR.ok .normal t d V= .ok e t' d' V':=h;cases h';exact A J w a hi (eW.refl _ _ _) j z _ Z
 | o::l,i,hl,t,V,J,w,a,h,hi,u,j,z,A=>by
  have E:ops[i]?=some o:=by
   rw[<-aT_];have:(ops.toList.drop i)[0]?=some o:=by rw[hl];rfl
   simpa using this
  have B:ops.toList.drop (i+1)=l:=by
   rw[<-List.drop_drop,hl];rfl
  have h':Cr d (iB P G ih true ops n o t V<|tw P G ih ops n d l)= .ok e t' d' V':=h;unfold iB at h';simp only[List.length_cons,List.range'_succ,wpOpsIn,E];cases hw:bM ops t o with
  | none=>rw[hw] at h';cases h'
  | some b=>
   rw[hw] at h';rw[By hw j];cases b with
   | false=>
    dsimp only at h';cases hp:dJ t n o.dst unit with
    | none=>rw[hp] at h';cases h'
    | some t₁=>
     rw[hp] at h';simp only[Bool.false_eq_true,if_false];exact⟨fun f _=>mX rl f,uK C rl l (i+1) B t₁ V J w _ h' hi u (j.put hp wg) (by rw[put_defers];exact z) A⟩
   | true=>
    dsimp only at h';cases he:lj P G ih (ey P G (bB G t) V o.op) with
    | err k=>rw[he] at h';cases h'
    | ki v F=>
     rw[he] at h';have h':CR.ok (.ki v) t d F= .ok e t' d' V':=h';cases h';simp only[if_true];refine NL C hi u (Oy _ u j) he rl m fun ρ₁ w₁ x hi₁ st₁ hv=>?_
     have hle:=st₁.le hi;exact A ρ₁ w₁ a hi₁ st₁ (j.mono hle) (z.mono hle) _ ⟨x,Z,hv⟩
    | ret v F=>
     rw[he] at h';dsimp only at h';cases hp:dJ t n o.dst v with
     | none=>rw[hp] at h';cases h'
     | some t₁=>
      rw[hp] at h';simp only[if_true];refine C3 C hi u (Oy _ u j) he rl m fun ρ₁ w₁ x hi₁ st₁ hv=>?_
      have hle:=st₁.le hi
      exact uK C rl l (i+1) B t₁ F ρ₁ w₁ _ h' hi₁ (u.mono hle) ((j.mono hle).put hp hv) (by rw[put_defers];exact z.mono hle)
       fun J' w' a' i' s'=>A J' w' a' i' (st₁.trans s')
end
theorem yd {P:Program} {V V':aE} (he:∀(b:Pos) (o:cD),V.m.get b=some o->V'.m.get b=some o) {u:Option TypeId} {x:Option U} {v:U} (h:sC P u V x=some v):sC P u V' x=some v:=by
 unfold sC at h⊢
 grind
theorem ID {P:Program} {ev:Operand->Option U} {V V':aE} {op:Op} {v:U} (he:∀b o,V.m.get b=some o->V'.m.get b=some o) (h:gq P ev V op=some v):gq P ev V' op=some v:=by
 cases op with
 | load t x=>
  grind [gq]
 | lookup t x i ok=>
  simp only[gq] at h⊢
  grind
 | call c=>
  grind [gq]
 | convert src dst x=>
  simp only[gq] at h⊢;split at h
  ·grind
  ·split at h
   ·rw[bE] at h⊢;split at h
    ·cases h
    rename_i hc;rw[if_neg hc];exact yd he h
   cases h
  ·rw[bE] at h⊢;split at h
   ·rename_i hc;rw[if_pos hc];exact yd he h
   cases h
  cases h
 | _=>exact h
theorem rk {ops:Array Oper} {i j:Nat}:waits ops i j=true↔∃o,ops[i]?=some o/\∃e∈o.after,Region.binds .any e=true/\e.on=j:=by
 unfold waits;cases h:ops[i]? with
 | none=>simp
 | some o=>
  simp only[Option.map_some,Option.getD_some,oJ_,exists_eq_left',bA_,beq_iff_eq,Array.any_iff_exists];constructor
  ·grind
  rintro ⟨e,he,h1⟩;obtain⟨q,hq,rfl⟩:=Array.getElem_of_mem he
  grind
structure Shape (P:Program) (ops:Array Oper) (A:Array Nat):Prop where
 dep:∀i j,waits ops i j=true->j<ops.size
 r5:∀i j,i<ops.size->j<ops.size->r5 A i j=true->waits ops i j=true∨∃d,waits ops i d=true/\Ev.r5 A d j=true
 uniq:∀i j k,fb ops i=some k->fb ops j=some k->i=j
 look:∀(i:Nat) (o:Oper) (j k:Nat),ops[i]?=some o->fb ops j=some k->k∈slotsOf ops o->Ev.r5 A i j=true∨(fQ P ops i=false/\(j=i∨Ev.r5 A j i=true))
 dst:∀(i:Nat) (o:Oper),ops[i]?=some o->fQ P ops i=true->∃k,o.dst=some k
theorem l6 {ops:Array Oper} {i k:Nat} (h:fb ops i=some k):i<ops.size:=by
 grind [fb]
theorem iQ {ops:Array Oper} {i:Nat} {o:Oper} (h:ops[i]?=some o):fb ops i=o.dst:=by simp[fb,h]
theorem jJ (m i:Nat):hasB m i=m.testBit i:=by
 rw[Nat.testBit_eq_decide_div_mod_eq];show Nat.beq ((m >>> i) &&& 1) 1=_
 grind [Nat.shiftRight_eq_div_pow,Nat.beq]
theorem PG (w:Nat):Nat.beq (Nat.land w 1) 1=w.testBit 0:=by
 have:=jJ w 0;exact this
theorem vp (i j:Nat):(bit i).testBit j=decide (i=j):=by
 show(1 <<< i).testBit j=_;rw[Nat.one_shiftLeft,Nat.testBit_two_pow]
theorem m4 (m k j:Nat):(Nat.lor m k).testBit j=(m.testBit j || k.testBit j):=Nat.testBit_or m k j
theorem kz {j:Nat}:∀{l:List Nat},(nt l).testBit j=true↔j∈l
 | []=>by simp[nt]
 | i::l=>by
  show(Nat.lor (bit i)<|nt l).testBit j=true↔_;rw[m4,vp,Bool.or_eq_true,kz,mQ_,decide_eq_true_eq]
  grind
theorem zZ {m k:Nat} (h:Bk m k=true) (j:Nat) (hj:m.testBit j=true):k.testBit j=true:=by
 have e:m &&& k=m:=nB h
 grind
theorem FL {m k:Nat} (h:Bk m k=false):∃j,m.testBit j=true/\k.testBit j=false:=by
 apply Classical.byContradiction;intro hn
 have e:m &&& k=m:=Nat.eq_of_testBit_eq fun j=>by
  simp_all
 have:Bk m k=true:=by
  show Nat.beq (m &&& k) m=true
  simp_all
 simp_all
theorem rQ {j:Nat}:∀{L:List RA} {w:Nat},(x7 L w).testBit j=true->∃d x,L[d]?=some x/\w.testBit d=true/\x.a.testBit j=true
 | [],w,h=>by simp[x7] at h
 | x::L,w,h=>by
  have h':(Nat.lor (@Bool.rec (fun _=>Nat) 0 x.a<|Nat.beq (Nat.land w 1) 1)<|x7 L<|w >>> 1).testBit j=true:=h;rw[m4,Bool.or_eq_true,PG] at h';rcases h' with h' | h'
  ·cases hw:w.testBit 0 with
   | true=>rw[hw] at h';exact⟨0,x,Z,hw,h'⟩
   | false=>
    rw[hw] at h';have h'':(0:Nat).testBit j=true:=h';simp at h''
  obtain⟨d,y,h1,m,u⟩:=rQ h';rw[Nat.testBit_shiftRight] at m;exact⟨d+1,y,by simpa using h1,by rw[Nat.add_comm];exact m,u⟩
theorem sD:∀(rows:List Row) (L:List RA),(Ls rows L).map (·.r)=L.map (·.r)++rows
 | [],L=>by show L.map (·.r)=_;simp
 | r::rows,L=>by
  show(Ls rows<|gL L [⟨r,Nat.lor r.w<|x7 L r.w⟩]).map (·.r)=_
  rw[sD rows,eb];simp
theorem AY {P:Program} {ops:Array Oper} {i:Nat} {o:Oper} (h:ops[i]?=some o):∃x,(ju P ops)[i]?=some x/\x.r=yz P ops o:=by
 have e:=sD (AK (yz P ops) ops.toList) [];rw[m5] at e
 have e':((ju P ops).map (·.r))[i]?=some (yz P ops o):=by
  unfold ju;rw[m5,e];simp[h]
 simp_all
theorem Lt {P:Program} {ops:Array Oper} {i:Nat} {x:RA} (h:(ju P ops)[i]?=some x):∃o,ops[i]?=some o/\x.r=yz P ops o:=by
 have e:=sD (AK (yz P ops) ops.toList) [];rw[m5] at e
 have e':((ju P ops).map (·.r))[i]?=ops[i]?.map (yz P ops):=by
  unfold ju;rw[m5,e];simp
 grind
theorem Dn {P:Program} {ops:Array Oper} {i j:Nat} {o:Oper} (h:ops[i]?=some o):(yz P ops o).w.testBit j=true↔waits ops i j=true:=by
 rw[rk];show(nt _).testBit j=true↔_;rw[kz,List.mem_filterMap]
 simp_all
theorem yZ {α:Type} {f:Nat->α->Bool}:∀{l:List α} {i:Nat},allI f l i=true->∀(j:Nat) (x:α),l[j]?=some x->f (i+j) x=true
 | [],i,_,j,x,hx=>by simp at hx
 | y::l,i,h,j,x,hx=>by
  have h': @Bool.rec (fun _=>Bool) false (allI f l (i+1)) (f i y)=true:=h;cases hf:f i y with
  | false=>rw[hf] at h';cases h'
  | true=>
   rw[hf] at h';cases j with
   | zero=>simp at hx;subst hx;exact hf
   | succ j=>
    have:=yZ h' j x (by simpa using hx);rw[show i+(j+1)=i+1+j by omega];exact this
theorem qB {α:Type} {f:Nat->α->Bool} {l:List α} (h:allI f l 0=true) (j:Nat) (x:α) (hx:l[j]?=some x):f j x=true:=by
 have:=yZ h j x hx
 simp_all
theorem lY {a b:Bool} (h:(bif a then b else false)=true):a=true/\b=true:=by cases a<;>simp_all
def Ad (P:Program) (ops:Array Oper):Array Nat:=((ju P ops).map (·.a)).toArray
theorem sR {P:Program} {ops:Array Oper} {i j:Nat} {x:RA} (h:(ju P ops)[i]?=some x):r5 (Ad P ops) i j=x.a.testBit j:=by
 unfold r5 Ad
 simp_all
theorem Cw {P:Program} {ops:Array Oper} {i:Nat} {o:Oper} (h:ops[i]?=some o):jN P ops i=(yz P ops o).h:=by unfold jN;rw[h];rfl
theorem xQ {P:Program} {ops:Array Oper} {i:Nat} {o:Oper} (h:ops[i]?=some o):fQ P ops i=(yz P ops o).k:=by unfold fQ;rw[h];rfl
theorem Ff {i j:Nat} {x y:RA} (h:Lf i x j y=true) (m:y.r.dm=nt y.r.d.toList):C7 i x j y=true:=by
 unfold Lf at h;cases hb:Nat.beq (Nat.land (Nat.lor x.r.dm x.r.s) y.r.dm) 0 with
 | false=>rw[hb] at h;exact h
 | true=>
  have e:(x.r.dm ||| x.r.s) &&& y.r.dm=0:=nB hb;unfold C7;cases u:y.r.d with
  | none=>rfl
  | some k=>
   have hk:y.r.dm.testBit k=true:=by rw[m,u];exact kz.2 (by simp)
   have h0:((x.r.dm ||| x.r.s) &&& y.r.dm).testBit k=false:=by simp_all
   rw[Nat.testBit_and,hk,Bool.and_true,Nat.testBit_or,Bool.or_eq_false_iff] at h0
   grind [jJ]
theorem LH {P:Program} {ops:Array Oper} (h:LG (ju P ops) ops.size=true):Shape P ops (Ad P ops):=by
 have key:∀i o,ops[i]?=some o->∃x,(ju P ops)[i]?=some x/\x.r=yz P ops o/\x.r.w<2 ^ ops.size/\(x.r.k=true->x.r.d.isSome=true)/\Bk x.a (Nat.lor x.r.w<|x7 (ju P ops) x.r.w)=true/\
   ∀j y,(ju P ops)[j]?=some y->C7 i x j y=true:=by
  intro i o m;obtain⟨x,hx,u⟩:=AY (P:=P) m;have h1:=qB h i x hx;obtain⟨Q,h1⟩:=lY h1;obtain⟨k2,h1⟩:=lY h1;obtain⟨R,h1⟩:=lY h1;refine⟨x,hx,u,?_,fun hk=>?_,R,fun j y A=>Ff (qB h1 j y A) (by obtain⟨o',_,B⟩:=Lt A;rw[B];rfl)⟩
  ·rw[wj] at Q;have:bit ops.size=2 ^ ops.size:=Nat.one_shiftLeft _;omega
  simp_all
 have pair:∀i o j o' k,ops[i]?=some o->ops[j]?=some o'->o'.dst=some k->(o.dst=some k->j=i)/\(k∈slotsOf ops o->r5 (Ad P ops) i j=true∨(fQ P ops i=false/\(j=i∨r5 (Ad P ops) j i=true))):=by
  intro i o j o' k m E hk;obtain⟨x,hx,u,_,_,_,hp⟩:=key i o m;obtain⟨y,A,B⟩:=AY (P:=P) E;have h1:=hp j y A;unfold C7 at h1;have F:y.r.d=some k:=by rw[B];exact hk
  rw[F] at h1;have G:(bif (bif hasB x.r.dm k then Nat.beq j i else true) then(bif hasB x.r.s k then(bif hasB x.a j then true else(bif x.r.k then false else(bif Nat.beq j i then true else hasB y.a i))) else true) else false)=true:=h1;obtain⟨g1,z⟩:=lY G;refine⟨fun I=>?_,fun K=>?_⟩
  ·have:hasB x.r.dm k=true:=by
    rw[jJ,u];show(nt o.dst.toList).testBit k=true;rw[kz,I];simp
   simp_all
  have:hasB x.r.s k=true:=by
   rw[jJ,u];exact kz.2 K
  rw[this] at z;simp only[cond_true] at z;rw[sR hx,sR A,xQ (P:=P) m,<-u];cases C:hasB x.a j with
  | true=>rw[jJ] at C;exact .inl C
  | false=>
   rw[C] at z;simp only[cond_false] at z;cases L:x.r.k with
   | true=>simp_all
   | false=>
    rw[L] at z;simp only[cond_false] at z;cases hb:Nat.beq j i with
    | true=>simp_all
    | false=>rw[hb] at z;rw[jJ] at z;simp_all
 refine⟨fun i j hw=>?_,fun i j hi hj C=>?_,fun i j k hi hj=>?_,fun i o j k m hj hk=>?_,fun i o m hl=>?_⟩
 ·obtain⟨o,m,_⟩:=rk.1 hw;obtain⟨x,hx,u,aa,_⟩:=key i o m;have:x.r.w.testBit j=true:=by rw[u];exact(Dn m).2 hw
  apply Classical.byContradiction
  grind [Nat.testBit_lt_two_pow,Nat.lt_of_lt_of_le,Nat.pow_le_pow_right]
 ·have m:ops[i]?=some ops[i]:=aG_ hi;obtain⟨x,hx,u,_,_,K,_⟩:=key i _ m;rw[sR hx] at C;have h1:=zZ K j C;rw[m4,Bool.or_eq_true] at h1;rcases h1 with h1 | h1
  ·rw[u] at h1;exact .inl ((Dn m).1 h1)
  obtain⟨d,y,A,M,S⟩:=rQ h1;rw[u] at M;exact .inr ⟨d,(Dn m).1 M,by rw[sR A];exact S⟩
 ·have hi':=l6 hi;have hj':=l6 hj;have m:ops[i]?=some ops[i]:=aG_ hi'
  grind [iQ]
 ·grind [l6,iQ]
 obtain⟨x,hx,u,_,F,_⟩:=key i o m;rw[xQ (P:=P) m,<-u] at hl;have:=F hl;rw[u] at this;exact Option.isSome_iff_exists.1 this
def Ord (ops:Array Oper):List Nat->Prop
 | []=>True
 | i::r=>(∀j,waits ops i j=true->j∈r)/\Ord ops r
structure Je (P:Program) (ops:Array Oper) (A:Array Nat) (i:Nat) (rc:List Nat) (done:List Nat):Prop where
 lt:i<ops.size
 new:i∉done
 dep:∀j,waits ops i j=true->j∈done
 again:jN P ops i=true->∀j∈done,fQ P ops j=true->r5 A i j=true∨j∈rc
 alone:jN P ops i=true->∀j,j<ops.size->j∉done->j≠i->∃e,waits ops j e=true/\e∉done
def F4 (P:Program) (ops:Array Oper) (A:Array Nat):List (Nat×List Nat)->List Nat->Prop
 | [],done=>∀i,i<ops.size->i∈done
 | (i,rc)::l,done=>Je P ops A i rc done/\F4 P ops A l (i::done)
theorem wZ {P:Program} {ops:Array Oper}:∀(p:List (Nat×List Nat)) (D_:Nat) (done:List Nat),(∀j,D_.testBit j=true↔j∈done)->Ep (ju P ops) ops.size p D_=true->F4 P ops (Ad P ops) p done
 | [],D_,done,B,h=>fun i hi=>by
  have e:D_=bit ops.size-1:=nB h;rw[<-B,e,show bit ops.size=2 ^ ops.size from Nat.one_shiftLeft _,Nat.testBit_two_pow_sub_one]
  simp_all
 | (i,rc)::l,D_,done,B,h=>by
  have h':Option.rec (motive:=fun _=>Bool) false (fun x=>bif Ko (ju P ops) i rc D_ x then Ep (ju P ops) ops.size l (Nat.lor D_<|bit i) else false) (nth (ju P ops) i)=true:=h;rw[fG] at h';cases hx:(ju P ops)[i]? with
  | none=>simp_all
  | some x=>
  rw[hx] at h';obtain⟨h1,K⟩:=lY h';obtain⟨o,E,I⟩:=Lt hx;have hlt:=(aS_.1 E).1;unfold Ko at h1;cases hi:hasB D_ i with
  | true=>simp_all
  | false=>
  rw[hi] at h1;obtain⟨hw,C⟩:=lY h1;refine⟨⟨hlt,fun hm=>?_,fun j hj=>?_,fun w j hj hl=>?_,fun w j hj hn aa=>?_⟩,wZ l _ (i::done) (fun j=>?_) K⟩
  ·rw[jJ] at hi
   grind
  ·grind [zZ,Dn]
  ·rw[Cw (P:=P) E,<-I] at w;rw[w] at C
   have z:∃o',ops[j]?=some o':=by
    cases m:ops[j]? with
    | some o'=>exact⟨o',Z⟩
    | none=>unfold fQ at hl;simp_all
   obtain⟨o',m⟩:=z;obtain⟨y,F,A⟩:=AY (P:=P) m;have h4:=qB C j y F;have u:hasB D_ j=true:=by rw[jJ];exact(B j).2 hj
   rw[u] at h4;simp only[cond_true] at h4;rw[sR hx];cases G:hasB x.a j with
   | true=>rw[jJ] at G;exact .inl G
   | false=>
    rw[G] at h4;rw[xQ (P:=P) m,<-A] at hl;rw[hl] at h4;simp only[cond_true,cond_false] at h4;rw[jJ] at h4;exact .inr<|kz.1 h4
  ·rw[Cw (P:=P) E,<-I] at w;rw[w] at C;have m:ops[j]?=some ops[j]:=aG_ hj;obtain⟨y,F,A⟩:=AY (P:=P) m;have h4:=qB C j y F
   have u:hasB D_ j=false:=by
    grind [jJ]
   rw[u] at h4;simp only[cond_false] at h4;cases hb:Nat.beq j i with
   | true=>simp_all
   | false=>
    rw[hb] at h4;simp only[cond_false] at h4
    grind [FL,Dn]
  rw[m4,vp,Bool.or_eq_true,B,mQ_,decide_eq_true_eq]
  grind
theorem Nl {P:Program} {ops:Array Oper} (h:ux P ops=true):Shape P ops (Ad P ops)/\F4 P ops (Ad P ops) (jQ P ops) []:=by
 obtain⟨h1,h2⟩:=lY h
 grind [LH,wZ]
def Li (listed:Array Bool) (i:Nat):Prop:=listed.getD i false=true
theorem Li.lt {listed:Array Bool} {i:Nat} (h:Li listed i):i<listed.size:=by
 grind [Li]
theorem KW {listed:Array Bool} {i:Nat} (hi:i<listed.size):listed.getD i true=false↔¬Li listed i:=by
 simp[Li,Array.getD_eq_getD_getElem?,hi]
theorem DV {listed:Array Bool} {i j:Nat} (hi:i<listed.size):Li (listed.setIfInBounds i true) j↔j=i∨Li listed j:=by
 unfold Li;simp only[Array.getD_eq_getD_getElem?,Array.getElem?_setIfInBounds]
 grind
def dF:U->Option Pos
 | .ptr b _=>some b
 | .slice b _ _ _=>some b
 | .map b=>some b
 | _=>none
theorem Ai (mk:Mk) (b:Pos):dF (mk.of b)=some b:=by cases mk<;>rfl
def mO (P:Program) (G:Cx) (t:PT U) (V:aE) (J:dh) (lo:Nat) (ti:PT U) (o:Oper):Prop:=
 match kindOf P o.op with
 | .pure=>∃v,dI P (bB G ti) o.op=some v/\∀k,o.dst=some k->t.get (posOf k)=some v
 | .read=>∃v,gq P (bB G ti) V o.op=some v/\∀k,o.dst=some k->t.get (posOf k)=some v
 | .alloc=>∃ob mk b,fy P (bB G ti) o.op=some (ob,mk)/\V.m.get b=some ob/\J b=none/\lo<=b.num/\b.num<V.next.num/\∀k,o.dst=some k->t.get (posOf k)=some (mk.of b)
 | .kY=>False
def rp (P:Program) (G:Cx) (ops:Array Oper) (A:Array Nat) (t₀ t:PT U) (V:aE) (J:dh) (lo:Nat) (i:Nat):Prop:=
 ∃o ti,ops[i]?=some o/\
  (∀k∈slotsOf ops o,∀j,r5 A i j=true->fb ops j=some k->ti.get (posOf k)=t.get (posOf k))/\
  (∀k∈slotsOf ops o,(∀j,fb ops j=some k->r5 A i j=false)->ti.get (posOf k)=t₀.get (posOf k))/\
  ∃bw,bM ops ti o=some bw/\(bw=false->∀k,o.dst=some k->t.get (posOf k)=some unit)/\(bw=true->mO P G t V J lo ti o)
section
variable {P:Program} {G:Cx} {ops:Array Oper} {A:Array Nat} {t₀ t t₁:PT U} {V V1:aE} {J ρ₁:dh} {lo i:Nat}
theorem xC {o:Oper} {j:Nat} {want:Bool} {k:Nat} (m:o.guard=some (j,want)) (hk:(ops[j]?).bind (·.dst)=some k):k∈slotsOf ops o:=by
 unfold slotsOf;rw[m];simp[hk]
theorem AP {o:Oper} {k:Nat} (h:Operand.tmp k∈o.op.operands):k∈slotsOf ops o:=by
 unfold slotsOf;refine List.mem_append_left _<|List.mem_filterMap.2 ⟨.tmp k,by simpa using h,Z⟩
theorem kN {o:Oper} {ti tj:PT U} (h:∀k∈slotsOf ops o,ti.get (posOf k)=tj.get (posOf k)):bM ops ti o=bM ops tj o:=by
 grind [bM,xC]
theorem rp.OB (hp:rp P G ops A t₀ t V J lo i) (h:∀k,(fb ops i=some k∨∃j,r5 A i j=true/\fb ops j=some k)->t₁.get (posOf k)=t.get (posOf k)):rp P G ops A t₀ t₁ V J lo i:=by
 obtain⟨o,ti,m,h1,w,bw,z,h4,h5⟩:=hp;have B:∀k,o.dst=some k->t₁.get (posOf k)=t.get (posOf k):=fun k hk=>h k (.inl (by rw[iQ m];exact hk))
 refine⟨o,ti,m,fun k hk j u hj=>(h1 k hk j u hj).trans (h k (.inr ⟨j,u,hj⟩)).symm,w,bw,z,fun hb k hk=>(B k hk).trans (h4 hb k hk),fun hb=>?_⟩
 grind [mO]
theorem rp.grow (hp:rp P G ops A t₀ t V J lo i) (h:∀b o,V.m.get b=some o->V1.m.get b=some o) (hn:V.next.num<=V1.next.num):rp P G ops A t₀ t V1 J lo i:=by
 obtain⟨o,ti,j,h1,u,bw,w,h4,h5⟩:=hp;refine⟨o,ti,j,h1,u,bw,w,h4,fun hb=>?_⟩
 grind [mO,ID]
theorem rp.Ty (hp:rp P G ops A t₀ t V J lo i) (m:Shape P ops A) (h:∀b,(∃o k v,ops[i]?=some o/\kindOf P o.op= .alloc/\fb ops i=some k/\t.get (posOf k)=some v/\dF v=some b)->J b=none->ρ₁ b=none):rp P G ops A t₀ t V ρ₁ lo i:=by
 obtain⟨o,ti,j,h1,u,bw,w,h4,h5⟩:=hp;refine⟨o,ti,j,h1,u,bw,w,h4,fun hb=>?_⟩;have:=h5 hb;unfold mO at this⊢;split at this
 ·exact this
 ·exact this
 ·rename_i hk;obtain⟨ob,mk,b,g1,g2,g3,g4,g5,g6⟩:=this;obtain⟨k,aa⟩:=m.dst i o j (by simp[fQ,uF,j,hk])
  grind [iQ,Ai]
 exact this
theorem rp.again (hp:rp P G ops A t₀ t V J lo i) (Q:Shape P ops A) (h:∀k,(fb ops i=some k∨∃j,r5 A i j=true/\fb ops j=some k)->t₁.get (posOf k)=t.get (posOf k))
  (h0:∀k,(∀j,fb ops j≠some k)->t₁.get (posOf k)=t₀.get (posOf k)) (w:fQ P ops i=true->ji P G ops t₁ V1 i=true)
  (hr:∀b:Pos,b.num<V.next.num->ρ₁ b=J b) (hn:V.next.num<=V1.next.num):rp P G ops A t₀ t₁ V1 ρ₁ lo i:=by
 have hp₁:=hp.OB h;obtain⟨o,ti,z,h1,E,bw,C,h4,h5⟩:=hp₁;cases hb:bw with
 | false=>exact⟨o,ti,z,h1,E,bw,C,h4,fun F=>absurd F (by rw[hb];simp)⟩
 | true=>
  have hv:=h5 hb;subst hb;cases hk:kindOf P o.op with
  | pure=>
   refine⟨o,ti,z,h1,E,true,C,h4,fun _=>?_⟩
   grind [mO]
  | kY=>unfold mO at hv;simp_all
  | read=>
   have hl:fQ P ops i=true:=by simp[fQ,uF,z,hk]
   have u:∀k∈slotsOf ops o,t₁.get (posOf k)=ti.get (posOf k):=fun k m=>by
    by_cases hw:∃j,fb ops j=some k
    ·obtain⟨j,hj⟩:=hw;rcases Q.look i o j k z hj m with I | ⟨K,_⟩
     ·grind
     simp_all
    simp_all
   have ar:=w hl;unfold ji at ar;rw[z] at ar;dsimp only at ar;rw[kN u,C] at ar;dsimp only at ar;refine⟨o,t₁,z,fun _ _ _ _ _=>Z,fun k m hj=>(u k m).trans (E k m hj),true,by rw[kN u];exact C,fun h'=>(by cases h'),fun _=>?_⟩
   grind [mO,MK]
  | alloc=>
   have hl:fQ P ops i=true:=by simp[fQ,uF,z,hk]
   have u:∀k∈slotsOf ops o,t₁.get (posOf k)=ti.get (posOf k):=fun k m=>by
    by_cases hw:∃j,fb ops j=some k
    ·obtain⟨j,hj⟩:=hw;rcases Q.look i o j k z hj m with I | ⟨K,_⟩
     ·grind
     simp_all
    simp_all
   have ar:=w hl;unfold ji at ar;rw[z] at ar;dsimp only at ar;rw[kN u,C] at ar;dsimp only at ar;refine⟨o,t₁,z,fun _ _ _ _ _=>Z,fun k m hj=>(u k m).trans (E k m hj),true,by rw[kN u];exact C,fun h'=>(by cases h'),fun _=>?_⟩;unfold mO at hv⊢;rw[hk] at hv⊢;dsimp only at hv⊢;obtain⟨ob,mk,b,g1,g2,g3,g4,g5,R⟩:=hv;split at ar
   ·rename_i k L;have g6':=R k L;rw[g6'] at ar;dsimp only at ar;rw[hk] at ar;dsimp only at ar;have ab:ρ₁ b=none:=by simp_all
    split at ar
    ·rename_i cs e b' I B;split at ar
     ·rename_i cs' e' M;rw[bA_] at ar;have e1:=nB ar.1;have e2:=wh ar.2;subst e1;subst e2;have aa:b'=b:=by cases mk<;>simp[Mk.of] at B<;>exact B.symm
      grind [Mk.of]
     cases ar
    ·rename_i cs e n c b' n' c' I B;split at ar
     ·rename_i cs' e' M;simp only[bA_] at ar;have e1:=nB ar.1.1.1;have e2:=wh ar.1.1.2;have e3:=nB ar.1.2;have e4:=nB ar.2;subst e1;subst e2;subst e3;subst e4;have ac:b'=b/\mk= .slice n c:=by cases mk<;>simp[Mk.of] at B<;>(simp_all)
      grind
     cases ar
    cases ar
   cases ar
end
theorem mz {t t₁:PT U} {n:Nat} {dst:Option Nat} {v:U} (h:dJ t n dst v=some t₁):
  (∀k,dst≠some k->t₁.get (posOf k)=t.get (posOf k))/\(∀k,dst=some k->k<n/\t₁.get (posOf k)=some v):=by
 cases dst with
 | none=>cases h;simp_all
 | some j=>
  obtain⟨hj,rfl⟩:=qW h;refine⟨fun k hk=>PT.dD _ _ _ _ (fun e=>hk (by rw[qU e])),fun k hk=>?_⟩;cases hk;exact⟨hj,PT.dG _ _ _⟩
theorem Lo {a:Act} {dst:Option Tmp} {x:Value}:(∀k,dst≠some k->(a.put dst x).tmps.getD k undef=a.tmps.getD k undef)/\(∀k,dst=some k->k<a.tmps.size->(a.put dst x).tmps.getD k undef=x)/\(a.put dst x).tmps.size=a.tmps.size:=by
 cases dst with
 | none=>exact⟨fun _ _=>Z,(fun k hk=>by cases hk),Z⟩
 | some j=>
  refine⟨fun k hk=>?_,fun k hk m=>?_,by simp[Act.put]⟩
  ·have:j≠k:=fun e=>hk (by rw[e])
   simp[Act.put,Array.getD_eq_getD_getElem?,Array.getElem?_setIfInBounds,this]
  cases hk;simp[Act.put,Array.getD_eq_getD_getElem?,Array.getElem?_setIfInBounds,m]
theorem dp {α:Type} {x y:α} {l:List α} (h:x∈y::l):x=y∨x∈l:=mQ_.1 h
structure J_ (P:Program) (G:Cx) (ih:j1) (ops:Array Oper) (A:Array Nat) (n:Nat) (d:List DE) (fin:CR) (ρ₀:dh) (σ₀:aE) (w₀:World) (t₀:PT U)
  (l:List (Nat×List Nat)) (done:List Nat) (t:PT U) (V:aE) (listed:Array Bool) (J:dh) (w:World) (a:Act):Prop where
 run:jR P G ih ops n d l t V=fin
 ok:F4 P ops A l done
 inv:Inv J V w
 OQ:eW ρ₀ σ₀ w₀ J V w
 dr:DR J d a.defers
 gr:GR J G
 OT:a.tmps.size=n
 Mw:listed.size=ops.size
 O8:∀i∈done,i<ops.size
 ord:Ord ops done
 sub:∀i,Li listed i->i∈done
 kY:∀i∈done,jN P ops i=true->Li listed i
 closed:∀i j,j<ops.size->Li listed i->r5 A i j=true->Li listed j
 lE:∀i j,j<ops.size->i∈done->r5 A i j=true->j∈done
 Qn:∀i∈done,∀k,fb ops i=some k->k<n
 Dt:∀i k v,Li listed i->fb ops i=some k->t.get (posOf k)=some v->VR J v (a.tmps.getD k undef)
 Ds:∀k v,(∀i,Li listed i->fb ops i≠some k)->t₀.get (posOf k)=some v->k<n/\VR J v (a.tmps.getD k undef)
 same:∀k,(∀i∈done,fb ops i≠some k)->t.get (posOf k)=t₀.get (posOf k)
 C8:∀i∈done,¬Li listed i->rp P G ops A t₀ t V J σ₀.next.num i
 apart:∀i j o o' k k' v v' b,i∈done->j∈done->¬Li listed i->¬Li listed j->ops[i]?=some o->ops[j]?=some o'->kindOf P o.op= .alloc->kindOf P o'.op= .alloc->
  fb ops i=some k->fb ops j=some k'->t.get (posOf k)=some v->t.get (posOf k')=some v'->dF v=some b->dF v'=some b->i=j
section
variable {P:Program} {G:Cx} {ih:j1} {ops:Array Oper} {A:Array Nat} {n:Nat} {d:List DE} {fin:CR} {ρ₀:dh} {σ₀:aE} {w₀:World} {t₀:PT U}
variable {l:List (Nat×List Nat)} {done:List Nat} {t:PT U} {V:aE} {listed:Array Bool} {J:dh} {w:World} {a:Act}
theorem wM (m:Shape P ops A) {i:Nat} (hi:i<ops.size) (hw:∀j,waits ops i j=true->j∈done) (hd:∀i j,j<ops.size->i∈done->r5 A i j=true->j∈done):∀j,j<ops.size->r5 A i j=true->j∈done:=fun j hj u=>by
 rcases m.r5 i j hi hj u with h | ⟨q,h1,h2⟩
 ·exact hw j h
 grind
theorem wN (m:Shape P ops A) {i:Nat} (hi:i<ops.size) (hw:∀j,waits ops i j=true->Li listed j) (hd:∀i j,j<ops.size->Li listed i->r5 A i j=true->Li listed j):∀j,j<ops.size->r5 A i j=true->Li listed j:=fun j hj u=>by
 rcases m.r5 i j hi hj u with h | ⟨q,h1,h2⟩
 ·exact hw j h
 grind
theorem J_.xE (C:Shape P ops A) (hj:J_ P G ih ops A n d fin ρ₀ σ₀ w₀ t₀ l done t V listed J w a) {i:Nat} {o:Oper} (z:ops[i]?=some o) (B:i∉done):
  ∀k∈slotsOf ops o,(∀j,fb ops j=some k->r5 A i j=false)->t.get (posOf k)=t₀.get (posOf k):=fun k hk aa=>by
 refine hj.same k fun j m u=>?_
 rcases C.look i o j k z u hk with h | ⟨_,h | h⟩
 ·simp_all
 ·subst h;exact B m
 exact B<|hj.lE j i (aS_.1 z).1 m h
theorem J_.look (E:Shape P ops A) (hj:J_ P G ih ops A n d fin ρ₀ σ₀ w₀ t₀ l done t V listed J w a) {i:Nat} {o:Oper} {ti:PT U} (z:ops[i]?=some o) (B:¬Li listed i) (F:∀j,j<ops.size->r5 A i j=true->Li listed j)
  (h1:∀k∈slotsOf ops o,∀j,r5 A i j=true->fb ops j=some k->ti.get (posOf k)=t.get (posOf k)) (I:∀k∈slotsOf ops o,(∀j,fb ops j=some k->r5 A i j=false)->ti.get (posOf k)=t₀.get (posOf k)):
  ∀k∈slotsOf ops o,∀v,ti.get (posOf k)=some v->k<n/\VR J v (a.tmps.getD k undef):=fun k hk v hv=>by
 by_cases hw:∃j,fb ops j=some k/\r5 A i j=true
 ·obtain⟨j,m,C⟩:=hw;have hL:=F j (l6 m) C;rw[h1 k hk j C m] at hv;exact⟨hj.Qn j (hj.sub j hL) k m,hj.Dt j k v hL m hv⟩
 have u:∀j,fb ops j=some k->r5 A i j=false:=fun j m=>by
  simp_all
 rw[I k hk u] at hv;refine hj.Ds k v (fun j hL m=>?_) hv;rcases E.look i o j k z m hk with h | ⟨_,h | h⟩
 ·simp_all
 ·subst h;exact B hL
 exact B<|hj.closed j i (aS_.1 z).1 hL h
theorem Gv {ti:PT U} {o:Oper} (j:GR J G) (h:∀k∈slotsOf ops o,∀v,ti.get (posOf k)=some v->k<n/\VR J v (a.tmps.getD k undef)):ER J (bB G ti) a.eval o.op:=fun x hx v hv=>by
 cases x with
 | tmp k=>exact(h k (AP hx) v hv).2
 | const c=>exact ja (t:=.leaf) (n:=a.tmps.size) j ⟨Z,fun k v hk=>by rw[PT.kX] at hk;cases hk⟩ hv
 | global g=>exact ja (t:=.leaf) (n:=a.tmps.size) j ⟨Z,fun k v hk=>by rw[PT.kX] at hk;cases hk⟩ hv
 | func f=>exact ja (t:=.leaf) (n:=a.tmps.size) j ⟨Z,fun k v hk=>by rw[PT.kX] at hk;cases hk⟩ hv
theorem vL {ti:PT U} {o:Oper} {b:Bool} (m:a.tmps.size=n) (h:∀k∈slotsOf ops o,∀v,ti.get (posOf k)=some v->k<n/\VR J v (a.tmps.getD k undef)) (hw:bM ops ti o=some b):Region.wanted o (yielded ops a.tmps)=b:=
 z3 hw fun j want k u hk v hv=>by
  have:=h k (xC u hk) v hv;rw[m];exact this
theorem J_.ahead (hs:Shape P ops A) {i:Nat} {rc:List Nat} (hj:J_ P G ih ops A n d fin ρ₀ σ₀ w₀ t₀ ((i,rc)::l) done t V listed J w a) (hl:jN P ops i=false) {o:Oper} (ho:ops[i]?=some o) {v:U} {t₁:PT U} {E:aE}
  (hp:dJ t n o.dst v=some t₁) (I:jR P G ih ops n d l t₁ E=fin) (hinv:Inv J E w) (ar:eW J V w J E w) (K:∀b o,V.m.get b=some o->E.m.get b=some o)
  (am:∀b,dF v=some b->kindOf P o.op= .alloc->V.next.num<=b.num) (ab:rp P G ops A t₀ t₁ E J σ₀.next.num i):J_ P G ih ops A n d fin ρ₀ σ₀ w₀ t₀ l (i::done) t₁ E listed J w a:=by
 obtain⟨F,T⟩:=hj.ok;obtain⟨f1,f2⟩:=mz hp;have L:fb ops i=o.dst:=iQ ho;have ao:¬Li listed i:=fun h=>F.new (hj.sub i h)
 have z:∀j∈done,∀k,fb ops j=some k->t₁.get (posOf k)=t.get (posOf k):=fun j B k hk=>f1 k fun e=>by
  have:=hs.uniq i j k (by rw[L];exact e) hk;subst this;exact F.new B
 have aa:∀j∈done,¬Li listed j->rp P G ops A t₀ t₁ E J σ₀.next.num j:=fun j B C=>by
  refine((hj.C8 j B C).OB fun k hk=>?_).grow K ar.next;rcases hk with hk | ⟨q,hq,hk⟩
  ·grind
  exact z q (hj.lE j q (l6 hk) B hq) k hk
 have an:∀j o' k' v' b,j∈done->¬Li listed j->ops[j]?=some o'->kindOf P o'.op= .alloc->fb ops j=some k'->t₁.get (posOf k')=some v'->dF v'=some b->b.num<V.next.num:=fun j o' k' v' b B C M hk W hv hb=>by
  obtain⟨o'',ti,e,_,_,bw,_,h4,h5⟩:=hj.C8 j B C;rw[M] at e;cases e;rw[z j B k' W] at hv;rw[iQ M] at W;cases bw with
  | false=>rw[h4 Z k' W] at hv;cases hv;cases hb
  | true=>
   have:=h5 Z
   grind [mO,Ai]
 refine⟨I,T,hinv,hj.OQ.trans ar,hj.dr,hj.gr,hj.OT,hj.Mw,fun j h=>?_,⟨F.dep,hj.ord⟩,fun j h=>mC_ _ (hj.sub j h),fun j h hv=>?_,hj.closed,fun j q hq h ha=>?_,fun j h k hk=>?_,fun j k u hL hk hu=>?_,hj.Ds,fun k hk=>?_,fun j h C=>?_,?_⟩
 ·rcases dp h with rfl | h
  ·exact F.lt
  exact hj.O8 j h
 ·rcases dp h with rfl | h
  ·simp_all
  exact hj.kY j h hv
 ·rcases dp h with rfl | h
  ·exact mC_ _<|wM hs F.lt F.dep hj.lE q hq ha
  exact mC_ _<|hj.lE j q hq h ha
 ·rcases dp h with rfl | h
  ·simp_all
  exact hj.Qn j h k hk
 ·rw[z j (hj.sub j hL) k hk] at hu;exact hj.Dt j k u hL hk hu
 ·rw[f1 k (fun e=>hk i (mS_ ..) (by rw[L];exact e))];exact hj.same k fun j h=>hk j (mC_ _ h)
 ·grind
 intro j q o' o'' k k' u u' b h1 h2 h3 h4 h5 h6 h7 h8 h9 Q R S X ac;rcases dp h1 with rfl | m1<;>rcases dp h2 with rfl | m2
 ·rfl
 ·grind
 ·grind
 rw[z j m1 k h9] at R;rw[z q m2 k' Q] at S;exact hj.apart j q o' o'' k k' u u' b m1 m2 h3 h4 h5 h6 h7 h8 h9 Q R S X ac
theorem Inv.Ee (hi:Inv J V w) (ob:cD):Ab J (V.alloc ob) w/\eW J V w J (V.alloc ob) w/\∀b o,V.m.get b=some o->(V.alloc ob).m.get b=some o:=by
 have aa:J V.next=none:=(hi.fresh _<|nR_ _).1;have j:∀b,b≠V.next->(V.alloc ob).m.get b=V.m.get b:=fun b hb=>PT.dD _ _ _ _ hb
 have back:∀b o l,(V.alloc ob).m.get b=some o->J b=some l->V.m.get b=some o:=fun b o l h hl=>by
  grind
 refine⟨⟨fun b hb=>?_,hi.dF,fun b o l h hl=>hi.obj b o l (back b o l h hl) hl,fun b b' o o' l l' h1 z u h4=>hi.inj b b' o o' l l' (back b o l h1 u) (back b' o' l' z h4) u h4⟩,⟨fun _ _=>Z,?_,nR_ _,fun _ _ _=>Z,?_,Z,Z,Z⟩,fun b o h=>?_⟩
 ·have ab:V.next.num+1<=b.num:=by simpa [aE.alloc,Pos.iT] using hb
  have B:b≠V.next:=fun e=>by subst e;omega
  rw[j b B];exact hi.fresh b oM
 ·simp[aE.alloc,Pos.iT]
 ·rintro r ⟨b,o,l,h1,z,u,rfl⟩ _;exact⟨b,o,l,back b o l h1 u,z,u,Z⟩
 by_cases e:b=V.next
 ·subst e;rw[(hi.fresh _<|nR_ _).2] at h;cases h
 simp_all
theorem Inv.ahead (hi:Inv J V w) (ob:cD):Inv J (V.alloc ob) w/\eW J V w J (V.alloc ob) w/\∀b o,V.m.get b=some o->(V.alloc ob).m.get b=some o:=
 let ⟨h1,j,u⟩:=hi.Ee ob;⟨⟨h1,hi.rP.of j⟩,j,u⟩
theorem aE.HT (V:aE) (ob:cD):(V.alloc ob).m.get V.next=some ob:=PT.dG _ _ _
theorem J_.QZ (I:Shape P ops A) {i:Nat} {rc:List Nat} (hj:J_ P G ih ops A n d fin ρ₀ σ₀ w₀ t₀ ((i,rc)::l) done t V listed J w a) (hl:jN P ops i=false) (aa:∀k,fin≠ .err k):
  ∃t₁ z,J_ P G ih ops A n d fin ρ₀ σ₀ w₀ t₀ l (i::done) t₁ z listed J w a:=by
 obtain⟨F,ab⟩:=hj.ok;obtain⟨o,C⟩:∃o,ops[i]?=some o:=⟨ops[i]' F.lt,aG_ F.lt⟩
 have u:(match ops[i]? with
   | some o=>iB P G ih false ops n o t V (fun t' V'=>bif dk P G ops t' V' rc then jR P G ih ops n d l t' V' else .err 86)
   | none=>.err 87)=fin:=hj.run
 rw[C] at u;dsimp only at u;have hhead:=hj.xE I C F.new
 have B:∀t₁ z,(bif dk P G ops t₁ z rc then jR P G ih ops n d l t₁ z else .err 86)=fin->jR P G ih ops n d l t₁ z=fin:=fun t₁ z h=>by
  grind
 have E:∀{v:U} {t₁:PT U},dJ t n o.dst v=some t₁->∀k∈slotsOf ops o,∀j,r5 A i j=true->fb ops j=some k->t.get (posOf k)=t₁.get (posOf k):=fun hp k hk j R M=>by
  refine((mz hp).1 k fun e=>?_).symm;have:=I.uniq i j k (by rw[iQ C];exact e) M;subst this;exact F.new<|wM I F.lt F.dep hj.lE i F.lt R
 unfold iB at u;cases hw:bM ops t o with
 | none=>grind
 | some bw=>
  rw[hw] at u;cases bw with
  | false=>
   dsimp only at u;cases hp:dJ t n o.dst unit with
   | none=>grind
   | some t₁=>
    rw[hp] at u;refine⟨t₁,V,hj.ahead I hl C hp (B _ _ u) hj.inv (eW.refl _ _ _) (fun _ _ h=>h) (fun b hb=>by cases hb) ?_⟩;exact⟨o,t,C,E hp,hhead,false,hw,fun _ k hk=>((mz hp).2 k hk).2,fun h=>by cases h⟩
  | true=>
   dsimp only at u
   have main:∀(v:U) (z:aE),lj P G ih (ey P G (bB G t) V o.op)= .ret v z->Inv J z w->eW J V w J z w->(∀b o,V.m.get b=some o->z.m.get b=some o)->
     (∀b,dF v=some b->kindOf P o.op= .alloc->V.next.num<=b.num)->(∀t₁,(∀k,o.dst=some k->t₁.get (posOf k)=some v)->mO P G t₁ z J σ₀.next.num t o)->
     ∃t₁ z,J_ P G ih ops A n d fin ρ₀ σ₀ w₀ t₀ l (i::done) t₁ z listed J w a:=by
    intro v z he hinv ar K L Q;rw[he] at u;dsimp only at u;cases hp:dJ t n o.dst v with
    | none=>grind
    | some t₁=>
     rw[hp] at u;refine⟨t₁,z,hj.ahead I hl C hp (B _ _ u) hinv ar K L ?_⟩;exact⟨o,t,C,E hp,hhead,true,hw,fun h=>(by cases h),fun _=>Q t₁ fun k hk=>((mz hp).2 k hk).2⟩
   cases hk:kindOf P o.op with
   | kY=>simp[jN,EV,C,hk] at hl
   | pure=>
    cases hv:dI P (bB G t) o.op with
    | none=>
     have:lj P G ih (ey P G (bB G t) V o.op)= .err (Nat.add 1000<|zK o.op):=by unfold ey;rw[hk];dsimp only;rw[hv];rfl
     grind
    | some v=>
     have:lj P G ih (ey P G (bB G t) V o.op)= .ret v V:=by unfold ey;rw[hk];dsimp only;rw[hv];rfl
     refine main v V this hj.inv (eW.refl _ _ _) (fun _ _ h=>h) (fun b _ h=>by rw[hk] at h;cases h) fun t₁ ht₁=>?_
     unfold mO;simp_all
   | read=>
    cases hv:gq P (bB G t) V o.op with
    | none=>
     have:lj P G ih (ey P G (bB G t) V o.op)= .err (Nat.add 2000<|zK o.op):=by unfold ey;rw[hk];dsimp only;rw[hv];rfl
     grind
    | some v=>
     have:lj P G ih (ey P G (bB G t) V o.op)= .ret v V:=by unfold ey;rw[hk];dsimp only;rw[hv];rfl
     refine main v V this hj.inv (eW.refl _ _ _) (fun _ _ h=>h) (fun b _ h=>by rw[hk] at h;cases h) fun t₁ ht₁=>?_
     unfold mO;simp_all
   | alloc=>
    cases hv:fy P (bB G t) o.op with
    | none=>
     have:lj P G ih (ey P G (bB G t) V o.op)= .err (Nat.add 3000<|zK o.op):=by unfold ey;rw[hk];dsimp only;rw[hv];rfl
     grind
    | some p=>
     obtain⟨ob,mk⟩:=p;have:lj P G ih (ey P G (bB G t) V o.op)= .ret (mk.of V.next) (V.alloc ob):=by unfold ey;rw[hk];dsimp only;rw[hv];rfl
     obtain⟨g1,S,T⟩:=hj.inv.ahead ob;refine main _ _ this g1 S T (fun b hb _=>by rw[Ai] at hb;simp_all) fun t₁ ht₁=>?_
     unfold mO;rw[hk];exact⟨ob,mk,V.next,hv,aE.HT V ob,(hj.inv.fresh _<|nR_ _).1,hj.OQ.next,by simp[aE.alloc,Pos.iT],ht₁⟩
theorem J_.advance (u:Shape P ops A) (j:∀k,fin≠ .err k):∀(l:List (Nat×List Nat)) (done:List Nat) (t:PT U) (V:aE),J_ P G ih ops A n d fin ρ₀ σ₀ w₀ t₀ l done t V listed J w a->
  ∃l' done' t' V',J_ P G ih ops A n d fin ρ₀ σ₀ w₀ t₀ l' done' t' V' listed J w a/\(l'= []∨∃i rc r,l'=(i,rc)::r/\jN P ops i=true)
 | [],done,t,V,hj=>⟨[],done,t,V,hj,.inl Z⟩
 | (i,rc)::l,done,t,V,hj=>by
  cases hl:jN P ops i with
  | true=>exact⟨_,done,t,V,hj,.inr ⟨i,rc,l,Z,hl⟩⟩
  | false=>
   obtain⟨t₁,z,m⟩:=hj.QZ u hl j;exact J_.advance u j l _ t₁ z m
end
section
variable {P:Program} {G:Cx} {ih:j1} {ops:Array Oper} {A:Array Nat} {n:Nat} {d:List DE} {fin:CR} {ρ₀:dh} {σ₀:aE} {w₀:World} {t₀:PT U}
variable {l:List (Nat×List Nat)} {done:List Nat} {t:PT U} {V:aE} {listed:Array Bool} {J:dh} {w:World} {a:Act}
theorem J_.behind (F:Shape P ops A) (hj:J_ P G ih ops A n d fin ρ₀ σ₀ w₀ t₀ l done t V listed J w a) {i:Nat} {o:Oper} {x:Value} {ρ₁:dh} {w₁:World} (I:ops[i]?=some o) (B:i∈done) (hn:¬Li listed i)
  (hr:∀j,j<ops.size->r5 A i j=true->Li listed j) (hv:∀k v,o.dst=some k->t.get (posOf k)=some v->VR ρ₁ v x) (hinv:Inv ρ₁ V w₁) (ar:eW ρ₀ σ₀ w₀ ρ₁ V w₁) (hle:J.le ρ₁)
  (aa:∀j∈done,¬Li listed j->j≠i->rp P G ops A t₀ t V ρ₁ σ₀.next.num j):J_ P G ih ops A n d fin ρ₀ σ₀ w₀ t₀ l done t V (listed.setIfInBounds i true) ρ₁ w₁ (a.put o.dst x):=by
 have C:i<listed.size:=by rw[hj.Mw];exact hj.O8 i B
 have z:fb ops i=o.dst:=iQ I;obtain⟨E,K,L⟩:=Lo (a:=a) (dst:=o.dst) (x:=x);have m:∀{j},Li (listed.setIfInBounds i true) j↔j=i∨Li listed j:=DV C
 refine⟨hj.run,hj.ok,hinv,ar,by rw[put_defers];exact hj.dr.mono hle,hj.gr.mono hle,by rw[L];exact hj.OT,by simpa using hj.Mw,hj.O8,hj.ord,fun j h=>?_,fun j h M=>m.2 (.inr<|hj.kY j h M),fun j q hq h Q=>?_,hj.lE,hj.Qn,
  fun j k v h hk hu=>?_,fun k v h hu=>?_,hj.same,fun j h hl=>?_,?_⟩
 ·rcases m.1 h with rfl | h
  ·exact B
  exact hj.sub j h
 ·rcases m.1 h with rfl | h
  ·simp_all
  exact m.2 (.inr<|hj.closed j q hq h Q)
 ·by_cases e:j=i
  ·subst e;rw[z] at hk;rw[K k hk (by rw[hj.OT];exact hj.Qn j B k (by rw[z];exact hk))];exact hv k v hk hu
  have hL:=(m.1 h).resolve_left e;rw[E k (fun e'=>e (F.uniq j i k hk (by rw[z];exact e')))];exact VR.mono hle _ _<|hj.Dt j k v hL hk hu
 ·rw[E k (fun e'=>h i (m.2 (.inl Z)) (by rw[z];exact e'))];obtain⟨q1,q2⟩:=hj.Ds k v (fun j hL=>h j (m.2 (.inr hL))) hu;exact⟨q1,VR.mono hle _ _ q2⟩
 ·simp_all
 intro j q o' o'' k k' u u' b h1 R S h4;exact hj.apart j q o' o'' k k' u u' b h1 R (fun hL=>S (m.2 (.inr hL))) (fun hL=>h4 (m.2 (.inr hL)))
theorem tP {t₁:PT U} {m:aE}:∀{rc:List Nat} {j:Nat},dk P G ops t₁ m rc=true->j∈rc->ji P G ops t₁ m j=true
 | [],j,_,hj=>by cases hj
 | i::rc,j,h,hj=>by
  have h':(bif ji P G ops t₁ m i then dk P G ops t₁ m rc else false)=true:=h;rw[bE] at h';split at h'
  ·rename_i hi;rcases dp hj with rfl | hj
   ·exact hi
   exact tP h' hj
  cases h'
theorem J_.L5 (W:Shape P ops A) {i:Nat} {rc:List Nat} (hj:J_ P G ih ops A n d fin ρ₀ σ₀ w₀ t₀ ((i,rc)::l) done t V listed J w a) (hl:jN P ops i=true) {o:Oper} (ho:ops[i]?=some o)
  (hr:∀j,j<ops.size->r5 A i j=true->Li listed j) {v:U} {x:Value} {t₁:PT U} {K:aE} {ρ₁:dh} {w₁:World} (hp:dJ t n o.dst v=some t₁) (E:dk P G ops t₁ K rc=true) (L:jR P G ih ops n d l t₁ K=fin)
  (hv:VR ρ₁ v x) (hinv:Inv ρ₁ K w₁) (ar:eW J V w ρ₁ K w₁):J_ P G ih ops A n d fin ρ₀ σ₀ w₀ t₀ l (i::done) t₁ K (listed.setIfInBounds i true) ρ₁ w₁ (a.put o.dst x):=by
 obtain⟨F,X⟩:=hj.ok;obtain⟨f1,f2⟩:=mz hp;have hle:=ar.le hj.inv;have aa:i<listed.size:=by rw[hj.Mw];exact F.lt
 have B:fb ops i=o.dst:=iQ ho;obtain⟨p1,p2,p3⟩:=Lo (a:=a) (dst:=o.dst) (x:=x);have m:∀{j},Li (listed.setIfInBounds i true) j↔j=i∨Li listed j:=DV aa;have ao:¬Li listed i:=fun h=>F.new (hj.sub i h)
 have z:∀j∈done,∀k,fb ops j=some k->t₁.get (posOf k)=t.get (posOf k):=fun j C k hk=>f1 k fun e=>by
  have:=W.uniq i j k (by rw[B];exact e) hk;subst this;exact F.new C
 refine⟨L,X,hinv,hj.OQ.trans ar,by rw[put_defers];exact hj.dr.mono hle,hj.gr.mono hle,by rw[p3];exact hj.OT,by simpa using hj.Mw,fun j h=>?_,⟨F.dep,hj.ord⟩,fun j h=>?_,fun j h hv=>?_,fun j q hq h I=>?_,fun j q hq h I=>?_,fun j h k hk=>?_,
  fun j k u h hk hu=>?_,fun k u h hu=>?_,fun k hk=>?_,fun j h M=>?_,?_⟩
 ·rcases dp h with rfl | h
  ·exact F.lt
  exact hj.O8 j h
 ·rcases m.1 h with rfl | h
  ·simp_all
  exact mC_ _<|hj.sub j h
 ·rcases dp h with rfl | h
  ·simp_all
  exact m.2 (.inr<|hj.kY j h hv)
 ·rcases m.1 h with rfl | h
  ·simp_all
  exact m.2 (.inr<|hj.closed j q hq h I)
 ·rcases dp h with rfl | h
  ·exact mC_ _<|wM W F.lt F.dep hj.lE q hq I
  exact mC_ _<|hj.lE j q hq h I
 ·rcases dp h with rfl | h
  ·simp_all
  exact hj.Qn j h k hk
 ·by_cases e:j=i
  ·subst e;rw[B] at hk;obtain⟨q1,q2⟩:=f2 k hk;rw[p2 k hk (by rw[hj.OT];exact q1)]
   simp_all
  have hL:=(m.1 h).resolve_left e;rw[p1 k (fun e'=>e (W.uniq j i k hk (by rw[B];exact e')))];rw[z j (hj.sub j hL) k hk] at hu;exact VR.mono hle _ _<|hj.Dt j k u hL hk hu
 ·rw[p1 k (fun e'=>h i (m.2 (.inl Z)) (by rw[B];exact e'))];obtain⟨q1,q2⟩:=hj.Ds k u (fun j hL=>h j (m.2 (.inr hL))) hu;exact⟨q1,VR.mono hle _ _ q2⟩
 ·rw[f1 k (fun e=>hk i (mS_ ..) (by rw[B];exact e))];exact hj.same k fun j h=>hk j (mC_ _ h)
 ·have ab:j≠i:=fun e=>M (m.2 (.inl e))
  have Q:¬Li listed j:=fun hL=>M (m.2 (.inr hL))
  have C:j∈done:=(dp h).resolve_left ab;refine(hj.C8 j C Q).again W (fun k hk=>?_) (fun k hk=>?_) (fun ac=>?_) (fun b hb=>ar.ext b hb) ar.next
  ·rcases hk with hk | ⟨q,hq,hk⟩
   ·grind
   exact z q (hj.lE j q (l6 hk) C hq) k hk
  ·rw[f1 k (fun e=>hk i (by rw[B];exact e))];exact hj.same k fun j _=>hk j
  rcases F.again hl j C ac with I | hm
  ·exact absurd (hr j (hj.O8 j C) I) Q
  exact tP E hm
 intro j q o' o'' k k' u u' b h1 h2 h3 h4 h5 h6 h7 h8 h9 R S T am an;have m1:j∈done:=(dp h1).resolve_left fun e=>h3 (m.2 (.inl e))
 have m2:q∈done:=(dp h2).resolve_left fun e=>h4 (m.2 (.inl e))
 rw[z j m1 k h9] at S;rw[z q m2 k' R] at T;exact hj.apart j q o' o'' k k' u u' b m1 m2 (fun hL=>h3 (m.2 (.inr hL))) (fun hL=>h4 (m.2 (.inr hL))) h5 h6 h7 h8 h9 R S T am an
theorem Dg {i:Nat} (u:listed.size=ops.size) (h:i∈Region.ready .any ops listed):i<ops.size/\¬Li listed i/\∀j,waits ops i j=true->Li listed j:=by
 obtain⟨h1,o,z,B⟩:=mem_ready.1 h;have hlt:=(aS_.1 z).1;refine⟨hlt,(KW (by rw[u];exact hlt)).1 h1,fun j hw=>?_⟩;obtain⟨o',m,e,he,hb,rfl⟩:=rk.1 hw;rw[z] at m;cases m;exact B e he hb
theorem Df {i:Nat} (u:listed.size=ops.size) (m:i<ops.size) (z:¬Li listed i) (hw:∀j,waits ops i j=true->Li listed j):i∈Region.ready .any ops listed:=
 mem_ready.2 ⟨(KW (by rw[u];exact m)).2 z,ops[i]' m,aG_ m,fun e he hb=>hw _ (rk.2 ⟨_,aG_ m,e,he,hb,Z⟩)⟩
theorem zL:∀{done:List Nat},Ord ops done->(∃i∈done,¬Li listed i)->∃i∈done,¬Li listed i/\∀j,waits ops i j=true->Li listed j
 | [],_,⟨i,hi,_⟩=>by cases hi
 | i::r,u,⟨q,hq,B⟩=>by
  by_cases z:∃j∈r,¬Li listed j
  ·obtain⟨j,h1,h2,h3⟩:=zL u.2 z
   grind
  have m:∀j∈r,Li listed j:=fun j hj=>Classical.byContradiction fun h=>z ⟨j,hj,h⟩
  rcases dp hq with rfl | hq
  ·exact⟨q,mS_ ..,B,fun j hw=>m j (u.1 j hw)⟩
  simp_all
theorem J_.all (hs:Shape P ops A) (hj:J_ P G ih ops A n d fin ρ₀ σ₀ w₀ t₀ l done t V listed J w a) (hr:Region.ready .any ops listed= []):∀i,i<ops.size->Li listed i:=by
 have m:∀i∈done,Li listed i:=fun i hi=>Classical.byContradiction fun h=>by
  obtain⟨q,h1,z,B⟩:=zL hj.ord ⟨i,hi,h⟩;have:=Df hj.Mw (hj.O8 q h1) z B
  simp_all
 intro i hi;cases l with
 | nil=>
  have:=hj.ok;exact m i<|this i hi
 | cons p l=>
  obtain⟨q,rc⟩:=p;obtain⟨u,_⟩:=hj.ok;have:=Df (listed:=listed) hj.Mw u.lt (fun h=>u.new (hj.sub q h)) (fun j hw=>m j (u.dep j hw))
  simp_all
theorem J_.finish (hs:Shape P ops A) (hj:J_ P G ih ops A n d fin ρ₀ σ₀ w₀ t₀ l done t V listed J w a) (j:∀i,i<ops.size->Li listed i):fin= .ok .normal t d V/\TR J t n a.tmps:=by
 cases l with
 | nil=>
  refine⟨hj.run.symm,hj.OT,fun k v hv=>?_⟩
  by_cases hw:∃i,fb ops i=some k
  ·obtain⟨i,hi⟩:=hw;have hL:=j i (l6 hi);exact⟨hj.Qn i (hj.sub i hL) k hi,hj.Dt i k v hL hi hv⟩
  rw[hj.same k fun i _ hi=>hw ⟨i,hi⟩] at hv;exact hj.Ds k v (fun i _ hi=>hw ⟨i,hi⟩) hv
 | cons p l=>
  obtain⟨q,rc⟩:=p;obtain⟨m,_⟩:=hj.ok;exact absurd (hj.sub q<|j q m.lt) m.new
def left (N_:Nat) (listed:Array Bool):Nat:=(List.range N_).countP fun i=> !listed.getD i false
theorem zg {α:Type} {p q:α->Bool}:∀{l:List α} {x:α},(∀y∈l,q y=true->p y=true)->x∈l->p x=true->q x=false->l.countP q<l.countP p
 | [],x,_,hx,_,_=>by cases hx
 | y::l,x,h,hx,hp,hq=>by
  have hle:l.countP q<=l.countP p:=List.countP_mono_left fun z j=>h z (mC_ _ j)
  rcases dp hx with rfl | hx
  ·grind
  have:=zg (fun z j=>h z (mC_ _ j)) hx hp hq
  grind
theorem KE {N_ i:Nat} (hi:i<N_) (j:listed.size=N_) (m:¬Li listed i):left N_ (listed.setIfInBounds i true)<left N_ listed:=by
 refine zg (x:=i) (fun y _ hy=>?_) (List.mem_range.2 hi) ?_ ?_
 ·by_cases h:Li listed y
  ·have:Li (listed.setIfInBounds i true) y:=(DV (by rw[j];exact hi)).2 (.inr h);unfold Li at this
   simp_all
  unfold Li at h;simpa using h
 ·unfold Li at m;simpa using m
 simp_all
theorem H4 {N_:Nat} (h:left N_ listed=0):∀i,i<N_->Li listed i:=fun i hi=>by
 have:=List.countP_eq_zero.1 h i (List.mem_range.2 hi);unfold Li;simpa using this
theorem Inv.lay (hi:Inv J V w) {b:Pos} {l:Loc} {ob:cD} {x:Obj} (hb:V.m.get b=some ob) (hn:J b=none) (aa:b.num<V.next.num) (hl:l.dF=w.heap.size) (K:gP J l ob x):Inv (J.with b l) V (w.alloc x)/\J.le (J.with b l):=by
 have hle:J.le (J.with b l):=fun b' l' j=>by
  grind [dh.dY]
 have hold:∀b' l',b'≠b->(J.with b l) b'=some l'->J b'=some l':=fun b' l' z h=>by rwa[dh.dY J l z] at h
 have B:Old (J.with b l) V (w.alloc x):=by
  refine⟨by have:=hi.rP.size;simp;omega,fun r E=>by rw[heap_alloc_old w x<|Nat.lt_of_lt_of_le E hi.rP.size];exact hi.rP.same r E,fun r E ⟨b',o',l',h1,F,u,h4⟩=>?_⟩
  by_cases e:b'=b
  ·subst e;rw[dh.cG] at u;cases u;have:=hi.rP.size;omega
  exact hi.rP.no r E ⟨b',o',l',h1,F,hold b' l' e u,h4⟩
 refine⟨⟨⟨fun b' j=>?_,fun b' l' j=>?_,fun b' o' l' j C=>?_,fun b₁ b₂ o₁ o₂ l₁ l₂ h1 F u h4 h5 L=>?_⟩,B⟩,hle⟩
 ·have z:b'≠b:=fun e=>by subst e;omega
  rw[dh.dY J l z];exact hi.fresh b' j
 ·simp only[World.size_alloc]
  by_cases e:b'=b
  ·subst e;rw[dh.cG] at j;cases j;omega
  have:=hi.dF b' l' (hold b' l' e j);omega
 ·by_cases e:b'=b
  ·subst e;rw[dh.cG] at C;cases C;rw[hb] at j;cases j;exact⟨x,by rw[hl];exact heap_alloc_new w x,K.mono hle⟩
  have h':=hold b' l' e C;obtain⟨y,M,E⟩:=hi.obj b' o' l' j h';exact⟨y,by rw[heap_alloc_old w x<|hi.dF b' l' h'];exact M,E.mono hle⟩
 by_cases e1:b₁=b<;>by_cases I:b₂=b
 ·simp_all
 ·subst e1;rw[dh.cG] at u;cases u;have:=hi.dF b₂ l₂ (hold b₂ l₂ I h4);omega
 ·subst I;rw[dh.cG] at h4;cases h4;have:=hi.dF b₁ l₁ (hold b₁ l₁ e1 u);omega
 exact hi.inj b₁ b₂ o₁ o₂ l₁ l₂ h1 F (hold b₁ l₁ e1 u) (hold b₂ l₂ I h4) h5 L
theorem eW.lay (ar:eW ρ₀ σ₀ w₀ J V w) {b:Pos} {l:Loc} {x:Obj} (aa:σ₀.next.num<=b.num) (hl:l.dF=w.heap.size):eW ρ₀ σ₀ w₀ (J.with b l) V (w.alloc x):=by
 refine⟨fun b' m=>?_,ar.next,by have:=ar.size;simp;omega,fun r u z=>?_,?_,ar.tape,ar.os,ar.out⟩
 ·rw[dh.dY J l (fun e=>by subst e;omega)];exact ar.ext b' m
 ·rw[heap_alloc_old w x (by have:=ar.size;omega)];exact ar.frame r u z
 rintro r ⟨b',o',l',h1,B,j,rfl⟩ u
 by_cases e:b'=b
 ·subst e;rw[dh.cG] at j;cases j;have:=ar.size;omega
 rw[dh.dY J l e] at j;exact ar.wr _ ⟨b',o',l',h1,B,j,Z⟩ u
theorem J_.take (F:Shape P ops A) (hj:J_ P G ih ops A n d fin ρ₀ σ₀ w₀ t₀ l done t V listed J w a) {i:Nat} (C:i∈done) (I:¬Li listed i) (hw:∀j,waits ops i j=true->Li listed j) (rl:Option Nat) (m:Nat) {Q:Exit->Act->World->Prop} {K:Act->World->Prop}
  (S:∀ρ₁ w₁ a₁,J_ P G ih ops A n d fin ρ₀ σ₀ w₀ t₀ l done t V (listed.setIfInBounds i true) ρ₁ w₁ a₁->K a₁ w₁):wpOpIn (lG rl) m P ops Q i K a w:=by
 have hr:=wN F (hj.O8 i C) hw hj.closed;obtain⟨o,ti,E,h1,h2,bw,h3,h4,h5⟩:=hj.C8 i C I;have hlook:=hj.look F E I hr h1 h2;unfold wpOpIn;rw[E];dsimp only;rw[vL hj.OT hlook h3];cases bw with
 | false=>
  simp only[Bool.false_eq_true,if_false];exact⟨fun f _=>mX rl f,S J w _<|hj.behind F E C I hr (fun k v hk hv=>by rw[h4 Z k hk] at hv;cases hv;exact wg) hj.inv hj.OQ (fun _ _ h=>h) fun j z B _=>hj.C8 j z B⟩
 | true=>
  simp only[if_true];have T:ER J (bB G ti) a.eval o.op:=Gv hj.gr hlook;have hv:=h5 Z;unfold mO at hv;have L:kindOf P o.op≠ .kY->∀c,o.op≠ .defer c:=fun hk c e=>hk (by rw[e];rfl)
  unfold Oper.wpIn;refine⟨fun f _=>mX rl f,?_⟩;cases hk:kindOf P o.op with
  | kY=>simp_all
  | pure=>
   rw[hk] at hv;obtain⟨v,g1,W⟩:=hv;obtain⟨x,hx,M⟩:=yj (P:=P) (w:=w) T g1;rw[Oper.semAt_eq _ _ _<|L (by rw[hk];simp),hx,Oper.uponIn_value];exact S J w _<|hj.behind F E C I hr (fun k u hk hu=>by simp_all) hj.inv hj.OQ (fun _ _ h=>h) fun j z B _=>hj.C8 j z B
  | read=>
   rw[hk] at hv;obtain⟨v,g1,W⟩:=hv;obtain⟨x,hx,M⟩:=yu (P:=P) hj.inv T g1;rw[Oper.semAt_eq _ _ _<|L (by rw[hk];simp),hx,Oper.uponIn_value];exact S J w _<|hj.behind F E C I hr (fun k u hk hu=>by simp_all) hj.inv hj.OQ (fun _ _ h=>h) fun j z B _=>hj.C8 j z B
  | alloc=>
   rw[hk] at hv;obtain⟨ob,mk,b,g1,W,g3,g4,g5,g6⟩:=hv;obtain⟨x,ob',c,hx,ac,X,M⟩:=vo (P:=P) (w:=w) T g1;rw[Oper.semAt_eq _ _ _<|L (by rw[hk];simp),hx,Oper.uponIn_value];obtain⟨inv,hle⟩:=hj.inv.lay (l:=⟨w.heap.size,0,c⟩) W g3 g5 Z X;obtain⟨kd,R⟩:=F.dst i o E (by simp[fQ,uF,E,hk]);refine S _ _ _<|hj.behind F E C I hr (fun k u hk hu=>by grind [dh.cG]) inv (hj.OQ.lay g4 Z) hle fun j z B aa=>?_;refine(hj.C8 j z B).Ty F fun b' ab hb'n=>?_
   obtain⟨o',k',v',q1,q2,q3,q4,q5⟩:=ab;rw[dh.dY]
   ·exact hb'n
   intro e;subst e;exact aa<|hj.apart j i o' o k' kd v' (mk.of b') b' z C B I q1 E q2 hk q3 (by rw[iQ E];exact R) q4 (g6 kd R) q5<|Ai mk b'
theorem JQ (C:Shape P ops A) (hS:Sound P G ih) (rl:Option Nat) (m:Nat) {Q:Exit->Act->World->Prop} {e:Ex} {t':PT U} {d':List DE} {V':aE} (z:fin= .ok e t' d' V')
  (hQ:∀(J':dh) (w':World) (a':Act),Inv J' V' w'->eW ρ₀ σ₀ w₀ J' V' w'->TR J' t' n a'.tmps->DR J' d' a'.defers->Qx Q J' e a' w'):
  ∀(fuel:Nat) (l:List (Nat×List Nat)) (done:List Nat) (t:PT U) (V:aE) (listed:Array Bool) (J:dh) (w:World) (a:Act),J_ P G ih ops A n d fin ρ₀ σ₀ w₀ t₀ l done t V listed J w a->left ops.size listed<=fuel->
   wpAnyIn (lG rl) m P .any ops Q fuel listed a w:=by
 have E:∀{l done t V listed J w a},J_ P G ih ops A n d fin ρ₀ σ₀ w₀ t₀ l done t V listed J w a->Region.ready .any ops listed= []->Q .normal a w:=fun {l done t V listed J w a} hj hr=>by
  obtain⟨h1,R⟩:=hj.finish C (hj.all C hr);rw[z] at h1;cases h1;exact hQ J w a hj.inv hj.OQ R hj.dr _ Z
 intro fuel;induction fuel with
 | zero=>
  intro l done t V listed J w a hj hf;have hall:=H4 (Nat.le_zero.1 hf)
  have hr:Region.ready .any ops listed= []:=by
   apply List.eq_nil_iff_forall_not_mem.2;intro i hi;obtain⟨h1,R,_⟩:=Dg hj.Mw hi;exact R<|hall i h1
  exact⟨hr,E hj hr⟩
 | succ fuel ihf=>
  intro l done t V listed J w a hj hf;refine⟨fun hr=>E hj hr,fun i hi=>?_⟩;obtain⟨l,done,t,V,hj,F⟩:=J_.advance C (fun k=>by rw[z];simp) l done t V hj;obtain⟨u,T,hw⟩:=Dg hj.Mw hi;have I:left ops.size (listed.setIfInBounds i true)<=fuel:=by have:=KE u hj.Mw T;omega
  by_cases K:i∈done
  ·exact hj.take C K T hw rl m fun ρ₁ w₁ a₁ W=>ihf _ _ _ _ _ _ _ _ W I
  
  rcases F with rfl | ⟨q,rc,r,rfl,hl⟩
  ·have:=hj.ok;exact absurd (this i u) K
  obtain⟨hh,_⟩:=hj.ok
  have X:i=q:=Classical.byContradiction fun aa=>by
   obtain⟨x,h1,R⟩:=hh.alone hl i u K aa;exact R<|hj.sub x<|hw x h1
  subst X;have hr:=wN C u hw hj.closed;obtain⟨o,M⟩:∃o,ops[i]?=some o:=⟨ops[i]' u,aG_ u⟩;have hlook:=hj.look C M T hr (ti:=t) (fun _ _ _ _ _=>Z) (hj.xE C M hh.new)
  have j:(match ops[i]? with
   | some o=>iB P G ih false ops n o t V (fun t' V'=>bif dk P G ops t' V' rc then jR P G ih ops n d r t' V' else .err 86)
   | none=>.err 87)=fin:=hj.run
  rw[M,z] at j;dsimp only at j
  have B:∀t₁ L,(bif dk P G ops t₁ L rc then jR P G ih ops n d r t₁ L else .err 86)= .ok e t' d' V'->dk P G ops t₁ L rc=true/\jR P G ih ops n d r t₁ L=fin:=fun t₁ L h=>by
   grind
  unfold iB at j;unfold wpOpIn;rw[M];dsimp only;cases S:bM ops t o with
  | none=>simp_all
  | some bw=>
   rw[S] at j;rw[vL hj.OT hlook S];cases bw with
   | false=>
    dsimp only at j;simp only[Bool.false_eq_true,if_false];cases hp:dJ t n o.dst unit with
    | none=>simp_all
    | some t₁=>
     rw[hp] at j;obtain⟨c1,c2⟩:=B _ _ j;exact⟨fun f _=>mX rl f,ihf _ _ _ _ _ _ _ _ (hj.L5 C hl M hr hp c1 c2 wg hj.inv<|eW.refl _ _ _) I⟩
   | true=>
    dsimp only at j;simp only[if_true];cases he:lj P G ih (ey P G (bB G t) V o.op) with
    | err k=>simp_all
    | ki v L=>rw[he] at j;cases j
    | ret v L=>
     rw[he] at j;dsimp only at j;cases hp:dJ t n o.dst v with
     | none=>simp_all
     | some t₁=>
      rw[hp] at j;obtain⟨c1,c2⟩:=B _ _ j;exact C3 hS hj.inv hj.gr (Gv hj.gr hlook) he rl m fun ρ₁ w₁ x inv st hv=>ihf _ _ _ _ _ _ _ _ (hj.L5 C hl M hr hp c1 c2 hv inv st) I
end
section
variable {P:Program} {G:Cx}
theorem jx {b:Frame} {a:Act} {k:List Item} {cs:List Frame} {w:World} {c:Code}:step P (lone (b.atR a (.code (.scope c)::k)) cs w)= .next (lone (b.atR a (.code c:: .inScope c::k)) cs w):=
 step_lone_go (by simp[stepG,stepG.exec,Frame.atR])
theorem yX {b:Frame} {a:Act} {k:List Item} {cs:List Frame} {w:World} {c:Code}:step P (lone (b.atR a (.inScope c::k)) cs w)= .next (lone (b.atR a k) cs w):=
 step_lone_go (by simp[stepG,stepG.exec,Frame.atR])
theorem FW {F:Fence} {n:Nat} {c:Code} {Q:Exit->Act->World->Prop} {a:Act} {w:World} (h:c.wpIn F n P (Exit.noGoto Q) a w):(Code.scope c).wpIn F n P Q a w:=by
 intro b k cs m hb u;have h0:(lone (b.atR a (.code (.scope c)::k)) cs w).fenced P F:=fenced_calm hb u Z;obtain⟨e,a₁,w₁,hq,j⟩:=h b (.inScope c::k) cs m hb u;cases e with
 | normal=>exact⟨.normal,a₁,w₁,hq,.head h0 jx<|StepsIn.trans j (.one (fenced_calm hb u Z) yX)⟩
 | exit id'=>
  have hx:exitTo id' (.inScope c::k)=exitTo id' k:=by simp[exitTo]
  exact⟨.exit id',a₁,w₁,hq,fun k' hk=>.head h0 jx (j.1 k' (by rw[hx];exact hk)),
   fun z hk=>let ⟨k₁,h1,A⟩:=j.2 z (by rw[hx];exact hk);⟨k₁,h1,.head h0 jx A⟩⟩
 | goto l=>exact hq.elim
 | ret=>exact⟨_,a₁,w₁,hq,.of_steps (.one h0 jx) j⟩
 | panic ch=>exact⟨_,a₁,w₁,hq,.of_steps (.one h0 jx) j⟩
 | outgrown=>exact⟨_,a₁,w₁,hq,.of_steps (.one h0 jx) j⟩
theorem kB {N_ i:Nat}:¬Li (Array.replicate N_ false) i:=by
 unfold Li;rw[Array.getD_eq_getD_getElem?,Array.getElem?_replicate];split<;>simp
theorem ED {ih:j1} (C:Sound P G ih) {ops:Array Oper} {n:Nat} {d:List DE} {t:PT U} {V:aE} {e:Ex} {t':PT U} {d':List DE} {V':aE} (h:vB P G ih ops n d t V= .ok e t' d' V')
  {J:dh} {w:World} {a:Act} (hi:Inv J V w) (E:GR J G) (B:TR J t n a.tmps) (F:DR J d a.defers) (rl:Option Nat) (m:Nat) {Q:Exit->Act->World->Prop}
  (I:∀(J':dh) (w':World) (a':Act),Inv J' V' w'->eW J V w J' V' w'->TR J' t' n a'.tmps->DR J' d' a'.defers->Qx Q J' e a' w'):
  wpAnyIn (lG rl) m P .any ops Q ops.size (Array.replicate ops.size false) a {w with drawn:=w.drawn+1}:=by
 unfold vB at h;rw[bE] at h;split at h
 ·rename_i hc;obtain⟨K,z⟩:=Nl hc;refine JQ (A:=Ad P ops) (n:=n) (d:=d) (t₀:=t) (ρ₀:=J) (σ₀:=V) (w₀:=w) K C rl m Z I ops.size (jQ P ops) [] t V _ J _ a ?_ ?_
  ·refine⟨h,z,hi.drew,eW.drew J V w,F,E,B.1,by simp,fun i hi=>(by cases hi),trivial,fun i u=>absurd u kB,fun i hi=>(by cases hi),fun i j _ u=>absurd u kB,fun i j _ hi=>(by cases hi),fun i hi=>(by cases hi),
    fun i k v u=>absurd u kB,fun k v _ hv=>B.2 k v hv,fun _ _=>Z,fun i hi=>(by cases hi),?_⟩
   simp_all
  exact Nat.le_trans List.countP_le_length (by simp)
 cases h
theorem Ck {ro:Option Pos} {rl:Option Nat} {d d₁:List DE} {V u:aE} {df:Pos} {J:dh} {w:World} {a:Act} {t:PT U} {n:Nat} (h:xT ro d V=some (df,u,d₁)) (hi:Inv J V w) (E:TR J t n a.tmps) (F:DR J d a.defers) (z:RO J ro rl)
  (fn:FuncId) (ps:Array Tmp) (assign body:Code):
  ∃l mark w₁ ρ₁,(Instr.enterLoop fn a.tmps ps assign body rl).run P w= .ok (l,mark) w₁/\Inv ρ₁ (u.alloc (.loop .ready none t n ps.toList assign body df)) w₁/\eW J V w ρ₁ (u.alloc (.loop .ready none t n ps.toList assign body df)) w₁/\
   ρ₁ u.next=some ⟨l,0,0⟩/\DR ρ₁ d₁ (mark++a.defers):=by
 unfold xT at h;cases ro with
 | none=>
  cases rl with
  | some _=>exact z.elim
  | none=>
  cases h;obtain⟨A,I⟩:=hi.alloc (o:=.mark) (x:=.deferred<|some []) (l:=⟨w.heap.size,0,0⟩) Z Z;have hle1:=I.le hi
  obtain⟨B,j⟩:=A.alloc (o:=.loop .ready none t n ps.toList assign body V.next) (x:=.loop {state:=.ready,pending:=none,fn:=fn,tmps:=a.tmps,params:=ps,assign:=assign,body:=body,defers:=w.heap.size}) (l:=⟨w.heap.size+1,0,0⟩) (by simp)
   ⟨fn,a.tmps,⟨w.heap.size,0,0⟩,by simp,dh.cG _ _ _,E.mono hle1⟩
  refine⟨_,_,_,_,run_enterLoop_outer fn a.tmps ps assign body,B,I.trans j,dh.cG _ _ _,?_⟩;exact⟨⟨w.heap.size,0,0⟩,a.defers,j.le A _ _<|dh.cG _ _ _,Z,F.mono (fun b l hb=>j.le A _ _ (hle1 b l hb))⟩
 | some b=>
  cases rl with
  | none=>exact z.elim
  | some l₀=>
  obtain⟨loc,hl,rfl⟩:=z;dsimp only at h;cases hb:V.m.get b with
  | none=>rw[hb] at h;cases h
  | some ob=>
  rw[hb] at h;cases ob with
  | loop st p tmps n' ps' as' bd df'=>
   cases h;obtain⟨x,K,fn',tmps',l',rfl,C,aa⟩:=hi.obj b _ loc hb hl
   obtain⟨B,j⟩:=hi.alloc (o:=.loop .ready none t n ps.toList assign body df) (x:=.loop {state:=.ready,pending:=none,fn:=fn,tmps:=a.tmps,params:=ps,assign:=assign,body:=body,defers:=l'.dF}) (l:=⟨w.heap.size,0,0⟩) Z
    ⟨fn,a.tmps,l',by simp,C,E⟩
   exact⟨_,_,_,_,run_enterLoop_inner K fn a.tmps ps assign body,B,j,dh.cG _ _ _,F.mono<|j.le hi⟩
  | _=>cases h
theorem yH {K:Act->World->Prop} {Q:Exit->Act->World->Prop} {J:dh} {e:Ex} {a:Act} {w:World} (he:e≠ .normal) (h:Qx Q J e a w):Qx (Exit.then K Q) J e a w:=by
 intro E j;have h':=h E j;cases e with
 | normal=>exact absurd Z he
 | ki v=>obtain⟨x,rfl,_⟩:=j;exact h'
 | exit i=>have j:E= .exit i:=j;subst j;exact h'
 | goto i=>have j:E= .goto i:=j;subst j;exact h'
 | ret=>have j:E= .ret:=j;subst j;exact h'
theorem Dc {ih:j1} (W:Sound P G ih) {g:Operand} {ps:Array Tmp} {assign body:Code} {t:PT U} {n:Nat} {d:List DE} {ro:Option Pos} {V:aE} {e:Ex} {t':PT U} {d':List DE} {V':aE}
  (h:uP P G ih g ps assign body t n d ro V= .ok e t' d' V') {J:dh} {w:World} {a:Act} {rl:Option Nat} {m:Nat} {Q:Exit->Act->World->Prop} (hi:Inv J V w) (F:GR J G) (B:TR J t n a.tmps) (hd:DR J d a.defers) (X:RO J ro rl)
  (hQ:∀(J':dh) (w':World) (a':Act),Inv J' V' w'->eW J V w J' V' w'->TR J' t' n a'.tmps->DR J' d' a'.defers->Qx Q J' e a' w'):(Code.rangeFunc g ps assign body).wpIn (lG rl) m P Q a w:=by
 unfold uP at h;cases hm:xT ro d V with
 | none=>rw[hm] at h;cases h
 | some q=>
 obtain⟨df,u,d₁⟩:=q;rw[hm] at h;dsimp only at h;cases hv:bB G t g with
 | none=>rw[hv] at h;cases h
 | some fv=>
 rw[hv] at h;cases fv with
 | func f fi ca=>
  dsimp only at h;rw[bE] at h;split at h
  ·rename_i I;refine wpIn_rangeFunc fun fn _=>?_
   obtain⟨l,mark,w₁,ρ₁,g1,C,g3,g4,g5⟩:=Ck (P:=P) hm hi B hd X fn ps assign body;have hle:=g3.le hi;have hfv:=ja (a:=a) F B hv;simp only[VR] at hfv;obtain⟨fi',ca',K,L,M⟩:=hfv
   have z:(resolve a.eval (rangeCall g l) 0).run P w₁= .ok {target:=.fn (.func f) ca',args:=fi'++ #[.func (.yield l) #[] #[]]} w₁:=by
    have R:(#[Operand.const (.func (.yield l) #[] #[])]).map a.eval= #[.func (.yield l) #[] #[]]:=by simp[Act.eval]
    simp only[resolve,rangeCall,R,K,Deferred.ofValue,sP_]
   have hinv:(invoke (.fn (.func f) ca') (fi'++ #[.func (.yield l) #[] #[]])).run P w₁= .ok (.enter f (fi'++ #[.func (.yield l) #[] #[]]++ca')) w₁:=by
    simp only[invoke];exact xN I
   refine⟨l,mark,w₁,_,w₁,f,_,w₁,by rw[EN];exact g1,z,fun f' _=>mX rl f',hinv,qJ rl m,?_⟩;cases hc:lr P G ih f (gL fi (.yield u.next::ca)) (u.alloc (.loop .ready none t n ps.toList assign body df)) with
   | err k=>rw[hc] at h;cases h
   | ki v E=>rw[hc] at h;cases h
   | ret v E=>
   rw[hc] at h;dsimp only at h;refine sj W hc C (F.mono hle) ?_ rl _ fun ρ₃ w₃ x i₃ s₃ hx=>?_
   ·rw[eb];have:(fi'++ #[Value.func (.yield l) #[] #[]]++ca').toList=fi'.toList++(.func (.yield l) #[] #[]::ca'.toList):=by simp
    rw[this];refine dw.append (dw.mono hle _ _ L)<|dw.cons ?_<|dw.mono hle _ _ M;simp only[VR];exact⟨_,g4,Z⟩
   have hl₃:=s₃.le C _ _ g4;have hle₃:J.le ρ₃:=fun b l hb=>s₃.le C _ _ (hle b l hb)
   unfold Ed at h;cases hb:E.m.get u.next with
   | none=>rw[hb] at h;cases h
   | some ob=>
   rw[hb] at h;cases ob with
   | loop st p tmps n' ps' as bd df'=>
    dsimp only at h;obtain⟨y,hh,fn',tmps',l',rfl,S,T⟩:=i₃.obj _ _ _ hb hl₃;have A:st≠ .busy:=fun ar=>by subst ar;cases h
    have h':(match p with
      | none=>CR.ok .normal t d₁ (E.setObj u.next (.loop .exhausted none tmps n' ps' as bd df'))
      | some c=>ih c t n d₁ ro (E.setObj u.next (.loop .exhausted (some c) tmps n' ps' as bd df')))= .ok e t' d' V':=by
     cases st<;>first | exact absurd rfl A | exact h
    obtain⟨i₄,s₄⟩:=i₃.putObj (o':=.loop .exhausted p tmps n' ps' as bd df') hb hl₃ Z Z
     (x:=.loop {state:=.exhausted,pending:=p,fn:=fn',tmps:=tmps',params:=ps'.toArray,assign:=as,body:=bd,defers:=l'.dF}) ⟨fn',tmps',l',Z,S,T⟩
    refine⟨p,_,run_endLoop hh A,?_⟩;have ar:=(g3.trans s₃).trans s₄;have j:ρ₁.le ρ₃:=s₃.le C;cases p with
    | none=>
     cases h';exact hQ ρ₃ _ {a with defers:=mark++a.defers} i₄ ar (B.mono hle₃) (g5.mono j) _ Z
    | some c=>
     exact W.run c t n d₁ ro _ e t' d' V' h' ρ₃ _ {a with defers:=mark++a.defers} rl m Q i₄ (F.mono hle₃) (B.mono hle₃) (g5.mono j) (X.mono hle₃) fun J' w' a' i' s' t'' d''=>hQ J' w' a' i' (ar.trans s') t'' d''
   | _=>cases h
  cases h
 | _=>cases h
theorem IH (hm:P.follows .mixedOrders=true) (W:BG P G) (k:Nat):Sound P G (ep P G k):=by
 induction k using Nat.strongRecOn with
 | _ k ihk=>
  cases k with
  | zero=>exact⟨W,fun c t n d ro V e t' d' V' h=>by cases h⟩
  | succ j=>
   have hS:=ihk j (Nat.lt_succ_self j);refine⟨W,fun c t n d ro V e t' d' V' h J w a rl m Q hi I F K L B=>?_⟩;have h:G4 P G (ep P G j) c t n d ro V= .ok e t' d' V':=h;cases c with
   | skip=>cases h;exact wpIn_skip<|B J w a hi (eW.refl _ _ _) F K _ Z
   | label l=>cases h;exact wpIn_label<|B J w a hi (eW.refl _ _ _) F K _ Z
   | exit id=>cases h;exact wpIn_exit<|B J w a hi (eW.refl _ _ _) F K _ Z
   | ret=>cases h;exact wpIn_ret<|B J w a hi (eW.refl _ _ _) F K _ Z
   | region id ops draw=>
    cases draw with
    | false=>
     have h':(bif mh ops.toList then .err 96 else Cr d (tw P G (ep P G j) ops n d ops.toList t V))= .ok e t' d' V':=h;refine wpIn_region ?_;rw[bE] at h';split at h'
     ·cases h'
     have:=uK hS rl (m:=m) (Q:=Q) ops.toList 0 Z t V J w a h' hi I F K B;rw[List.range_eq_range'];simpa using this
    | true=>
     have h':vB P G (ep P G j) ops n d t V= .ok e t' d' V':=h
     grind [wpIn_region_any,ED]
   | seq x y=>
    have h':wa (ep P G j x t n d ro V) (fun t d V=>ep P G j y t n d ro V)= .ok e t' d' V':=h;refine wpIn_seq ?_;cases hx:ep P G j x t n d ro V with
    | err q=>rw[hx] at h';cases h'
    | ok e₁ t₁ d₁ C=>
     rw[hx] at h'
     by_cases he:e₁= .normal
     ·subst he;refine hS.run x t n d ro V _ t₁ d₁ C hx J w a rl m _ hi I F K L fun ρ₁ w₁ a₁ i₁ s₁ ht₁ u E A=>?_
      have A:E= .normal:=A;subst A;have hle:=s₁.le hi;exact hS.run y t₁ n d₁ ro C e t' d' V' h' ρ₁ w₁ a₁ rl m Q i₁ (I.mono hle) ht₁ u (L.mono hle) fun J' w' a' i' s'=>B J' w' a' i' (s₁.trans s')
     have h'':CR.ok e₁ t₁ d₁ C= .ok e t' d' V':=by cases e₁<;>first | exact absurd rfl he | exact h'
     cases h'';exact hS.run x t n d ro V _ _ _ _ hx J w a rl m _ hi I F K L fun ρ₁ w₁ a₁ i₁ s₁ ht₁ u=>yH he (B ρ₁ w₁ a₁ i₁ s₁ ht₁ u)
   | cond x y z=>
    have h':ze (bB G t x) (ep P G j y t n d ro V) (ep P G j z t n d ro V)= .ok e t' d' V':=h;unfold ze at h';split at h'
    ·rename_i hv;have:=ja (a:=a) I F hv;simp only[VR] at this;exact wpIn_cond_true this<|hS.run y t n d ro V e t' d' V' h' J w a rl m Q hi I F K L B
    ·rename_i hv;have:=ja (a:=a) I F hv;simp only[VR] at this;exact wpIn_cond_false this<|hS.run z t n d ro V e t' d' V' h' J w a rl m Q hi I F K L B
    cases h'
   | block id x=>
    have h':r9 id (ep P G j x t n d ro V)= .ok e t' d' V':=h;refine wpIn_block ?_;cases hx:ep P G j x t n d ro V with
    | err q=>rw[hx] at h';cases h'
    | ok e₁ t₁ d₁ C=>
     rw[hx] at h';refine hS.run x t n d ro V e₁ t₁ d₁ C hx J w a rl m _ hi I F K L fun ρ₁ w₁ a₁ i₁ s₁ ht₁ u E A=>?_
     cases e₁ with
     | exit q=>
      have A:E= .exit q:=A;subst A;unfold r9 at h';dsimp only at h';rw[bE] at h';split at h'
      ·rename_i hq;cases h';have:=nB hq;subst this;simp only[Exit.inBlock,if_true];exact B ρ₁ w₁ a₁ i₁ s₁ ht₁ u _ Z
      rename_i hq;cases h';have S:¬q=id:=fun e=>hq (by simp_all)
      simp only[Exit.inBlock,if_neg S];exact B ρ₁ w₁ a₁ i₁ s₁ ht₁ u _ Z
     | normal=>have A:E= .normal:=A;subst A;cases h';exact B ρ₁ w₁ a₁ i₁ s₁ ht₁ u _ Z
     | goto q=>have A:E= .goto q:=A;subst A;cases h';exact B ρ₁ w₁ a₁ i₁ s₁ ht₁ u _ Z
     | ret=>have A:E= .ret:=A;subst A;cases h';exact B ρ₁ w₁ a₁ i₁ s₁ ht₁ u _ Z
     | ki v=>cases h';have h2:=B ρ₁ w₁ a₁ i₁ s₁ ht₁ u E A;obtain⟨y,rfl,_⟩:=A;exact h2
   | scope x=>
    have h':FA (ep P G j x t n d ro V)= .ok e t' d' V':=h;refine FW ?_;cases hx:ep P G j x t n d ro V with
    | err q=>rw[hx] at h';cases h'
    | ok e₁ t₁ d₁ C=>
     rw[hx] at h';refine hS.run x t n d ro V e₁ t₁ d₁ C hx J w a rl m _ hi I F K L fun ρ₁ w₁ a₁ i₁ s₁ ht₁ u E A=>?_
     cases e₁ with
     | goto q=>cases h'
     | normal=>have A:E= .normal:=A;subst A;cases h';exact B ρ₁ w₁ a₁ i₁ s₁ ht₁ u _ Z
     | exit q=>have A:E= .exit q:=A;subst A;cases h';exact B ρ₁ w₁ a₁ i₁ s₁ ht₁ u _ Z
     | ret=>have A:E= .ret:=A;subst A;cases h';exact B ρ₁ w₁ a₁ i₁ s₁ ht₁ u _ Z
     | ki v=>cases h';have h2:=B ρ₁ w₁ a₁ i₁ s₁ ht₁ u E A;obtain⟨y,rfl,_⟩:=A;exact h2
   | loop x=>
    refine wpIn_loop_ghost (fun i a₁ w₁=>i<=j+1/\∃t₁ d₁ C ρ₁,ep P G i (.loop x) t₁ n d₁ ro C= .ok e t' d' V'/\Inv ρ₁ C w₁/\eW J V w ρ₁ C w₁/\TR ρ₁ t₁ n a₁.tmps/\DR ρ₁ d₁ a₁.defers) (j+1)
     ⟨nR_ _,t,d,V,J,h,hi,eW.refl _ _ _,F,K⟩ fun i a₁ w₁ X=>?_
    obtain⟨aa,t₁,d₁,C,ρ₁,M,i₁,s₁,ht₁,u⟩:=X;have hle:=s₁.le hi;cases i with
    | zero=>cases M
    | succ i=>
     have hSi:=ihk i oM;have h':wa (ep P G i x t₁ n d₁ ro C) (fun t d V=>ep P G i (.loop x) t n d ro V)= .ok e t' d' V':=M;cases hx:ep P G i x t₁ n d₁ ro C with
     | err q=>rw[hx] at h';cases h'
     | ok e₂ t₂ d₂ T=>
      rw[hx] at h'
      by_cases he:e₂= .normal
      ·subst he;refine hSi.run x t₁ n d₁ ro C _ t₂ d₂ T hx ρ₁ w₁ a₁ rl m _ i₁ (I.mono hle) ht₁ u (L.mono hle) fun ρ₂ w₂ a₂ i₂ s₂ ht₂ R E A=>?_
       have A:E= .normal:=A;subst A;exact⟨i,Nat.lt_succ_self i,by omega,t₂,d₂,T,ρ₂,h',i₂,s₁.trans s₂,ht₂,R⟩
      have h'':CR.ok e₂ t₂ d₂ T= .ok e t' d' V':=by cases e₂<;>first | exact absurd rfl he | exact h'
      cases h'';exact hSi.run x t₁ n d₁ ro C _ _ _ _ hx ρ₁ w₁ a₁ rl m _ i₁ (I.mono hle) ht₁ u (L.mono hle) fun ρ₂ w₂ a₂ i₂ s₂ ht₂ R=>yH he (B ρ₂ w₂ a₂ i₂ (s₁.trans s₂) ht₂ R)
   | rangeFunc g ps assign body=>exact Dc hS h hi I F K L B
   | _=>cases h
theorem pM (hm:P.follows .mixedOrders=true) (j:BG P G) {fuel f:Nat} {args:List U} {V V':aE} {v:U} (h:xn P G fuel f args V= .ret v V') {J:dh} {w:World} {xs:Array Value} (hi:Inv J V w) (m:GR J G) (hx:dw J args xs.toList)
  {R:Ending->World->Prop} (u:∀(J':dh) (w':World) (x:Value),Inv J' V' w'->eW J V w J' V' w'->VR J' v x->R (.returned x) w'):Calls P f xs w R:=
 callsIn_wide.1 (sj (IH hm j fuel) h hi m hx none 0 u)
def V0:aE:=⟨0,.leaf⟩
theorem QR (w:World) (j:Hi w):Inv (fun _=>none) V0 w:=
 ⟨⟨fun b _=>⟨Z,PT.kX b⟩,fun b l h=>(by cases h),fun b o l _ h=>(by cases h),fun b b' o o' l l' _ _ h=>(by cases h)⟩,j.1,j.2,fun r _ ⟨b,o,l,_,_,h,_⟩=>by cases h⟩
end
end Go.Ev
namespace Go.Ev
variable [Env]
open Go.ChangeShapes Go.WideShapes Go.ChangeAt Go.RowKit
theorem ke.kept {w w':World} (h:ke w w') (may:MemPlace->Prop):w.keptBut w' may:=by
 refine⟨h.os,h.out,fun i hi=>?_⟩;rw[h.same i hi]
 grind
theorem ke.frozen {w w':World} (h:ke w w') (a:Addr) (j:a.block<w.heap.size):w'.frozen? a=w.frozen? a:=by
 unfold World.frozen?;rw[h.same a.block j]
theorem Fk {H_:Type} {enc:TypeId×Value->H_} {P:Program} {f:Func} {s:ChangeSpec} {apart fresh handsOn again:Bool} {W W':World} {args:Array Value} {v:Value} {ds gs:List (DataW H_)} {before pa pv:List MemPlace}
  (A:DataW.Whole enc P f.params.toList s.vars apart W args.toList ds gs before)
  (w:∀(b:Nat) (sp:Nat->Bool) (C:Bool),DataW.TrodAll enc P W' b sp C f.resultTypes.toList (v.resultList f.resultTypes.size) (s.fn H_ (ds++gs)).results [])
  (m:∀sp:Nat->Bool,(∀p∈before,sp p.block=true)->DataW.TrodAll enc P W' 0 sp true f.params.toList args.toList (s.fn H_ (ds++gs)).args pa)
  (u:∀sp:Nat->Bool,(∀p∈before,sp p.block=true)->DataW.TrodVars enc P W' sp s.vars (s.fn H_ (ds++gs)).vars pv)
  (aa:before=pa++pv) (hk:ke W W')
  (B:∀(j:Nat) (t:TypeId) (r:Value),f.resultTypes[j]?=some t->(v.resultList f.resultTypes.size)[j]?=some r->Value.okWide P W' .any 0 t r):
  s.post enc P f apart fresh handsOn again W args v W':=by
 have hold:∀p∈before,(fun b=>decide (b<W.heap.size)) p.block=true:=fun p hp=>by simpa using A.lt p hp
 refine⟨ds,gs,before,[],pa,pv,A,w _ _ _,m _ hold,u _ hold,hk.kept _,fun _=>?_⟩;have hlt:=A.lt;obtain⟨_,_,_,_,_,E,hn⟩:=A;refine⟨B,_,_,([]++pa)++pv,⟨[]++pa,pv,trodAll_append (m _ (fun _ _=>Z))<|w _ _ _,u _ (fun _ _=>Z),Z,?_,?_⟩,?_⟩
 ·intro b off hp;have z:MemPlace.cell b off∈before:=by simp_all
  rw[hk.frozen _<|hlt _ z];exact E b off z
 ·simp_all
 simp_all
end Go.Ev
namespace Go.Ev
variable [Env]
structure IK where
 k:IntKind
 n:Int
structure PO where
 b:Pos
 off:Nat
structure SL where
 b:Pos
 off:Nat
 len:Nat
def Qm:U->Option IK
 | .int k n=>some ⟨k,n⟩
 | _=>none
def R0:U->Option PO
 | .ptr b off=>some ⟨b,off⟩
 | _=>none
def Th:U->Option SL
 | .slice b off len _=>some ⟨b,off,len⟩
 | _=>none
def Tg:U->Option Nat
 | .int _ (.ofNat i)=>some i
 | _=>none
def Tf:U->Option Bool
 | .bool b=>some b
 | _=>none
def Ti:U->Option (List U)
 | .tuple l=>some l
 | _=>none
def rowOf:cD->Option (List U)
 | .row cells _ _=>some cells
 | .own cells _=>some cells
 | _=>none
theorem BT {v:U} {i:IK} (h:Qm v=some i):v= .int i.k i.n:=by
 unfold Qm at h;grind
def pB (V:aE) (e:Nat) (v:Option U):HR:=Option.rec (motive:=fun _=>HR) (.err e) (fun v=>.val v V) v
theorem nf (V:aE) (e:Nat) (v:Option U):pB V e v=match v with | some v=>.val v V | none=>.err e:=by cases v<;>rfl
structure SN where
 run:PT U->Option U
def nU (G:Cx) (x:Operand):SN:=
 match x with
 | .tmp k=>bif Nat.ble k 255 then⟨fun t=>ka t.s k⟩ else⟨fun t=>t.get k⟩
 | .const v=>⟨fun _=>p6 v⟩
 | .global g=>⟨fun _=>bif Nat.ble (Nat.succ g) G.gl then some (.ptr (posOf g) 0) else none⟩
 | .func f=>⟨fun _=>some (.func f [] [])⟩
theorem jc (G:Cx) (x:Operand) (t:PT U):(nU G x).run t=bB G t x:=by
 cases x with
 | tmp k=>
  show(bif Nat.ble k 255 then(⟨fun t=>ka t.s k⟩:SN) else⟨fun t=>t.get k⟩).run t=t.get k
  grind [PT.pP,ox]
 | _=>rfl
structure SM where
 run:U->U->Option U
def Kt (P:Program) (q:Bool) (o:BinOp) (ty:TypeId) (f:IntKind->Int->Int->U) (a b:U):Option U:=
 Option.rec (motive:=fun _=>Option U) (r8 P q o ty a b) (fun i=>Option.rec (motive:=fun _=>Option U) (r8 P q o ty a b) (fun j=>bif s6 i.k j.k then some (f i.k i.n j.n) else none) (Qm b)) (Qm a)
theorem PA {P:Program} {q:Bool} {o:BinOp} {ty:TypeId} {f:IntKind->Int->Int->U} (h:∀k x k' y,r8 P q o ty (.int k x) (.int k' y)=bif s6 k k' then some (f k x y) else none) (a b:U):Kt P q o ty f a b=r8 P q o ty a b:=by
 unfold Kt;cases m:Qm a with
 | none=>rfl
 | some i=>
  cases hb:Qm b with
  | none=>rfl
  | some j=>
   rw[BT m,BT hb,h]
def Ts (_:IntKind) (x y:Int):U:=.bool (b9 x y)
def Tp (_:IntKind) (x y:Int):U:=.bool (b9 y x)
def Tr (_:IntKind) (x y:Int):U:=.bool (bif b9 y x then false else true)
def To (_:IntKind) (x y:Int):U:=.bool (bif b9 x y then false else true)
def Tn (_:IntKind) (x y:Int):U:=.bool (H x y)
def Tv (_:IntKind) (x y:Int):U:=.bool (bif H x y then false else true)
def RY (k:IntKind) (x y:Int):U:=.int k (wr k<|Int.add x y)
def SI (k:IntKind) (x y:Int):U:=.int k (wr k<|Int.sub x y)
def Sg (k:IntKind) (x y:Int):U:=.int k (wr k<|Int.mul x y)
def QD (P:Program) (q:Bool) (o:BinOp) (ty:TypeId):SM:=
 match o with
 | .lss=>⟨Kt P q .lss ty Ts⟩
 | .gtr=>⟨Kt P q .gtr ty Tp⟩
 | .leq=>⟨Kt P q .leq ty Tr⟩
 | .geq=>⟨Kt P q .geq ty To⟩
 | .eql=>⟨Kt P q .eql ty Tn⟩
 | .neq=>⟨Kt P q .neq ty Tv⟩
 | .add=>⟨Kt P q .add ty RY⟩
 | .sub=>⟨Kt P q .sub ty SI⟩
 | .mul=>⟨Kt P q .mul ty Sg⟩
 | o=>⟨fun a b=>r8 P q o ty a b⟩
theorem O7 (P:Program) (q:Bool) (o:BinOp) (ty:TypeId) (a b:U):(QD P q o ty).run a b=r8 P q o ty a b:=by
 cases o<;>first | rfl | exact PA (fun _ _ _ _=>Z) a b
def QC (c:SM) (x y:Option U):Option U:=
 Option.rec (motive:=fun _=>Option U) none (fun a=>Option.rec (motive:=fun _=>Option U) none (fun b=>c.run a b) y) x
def GK (c a b:Option U):Option U:=
 Option.rec (motive:=fun _=>Option U) none (fun c=>Option.rec (motive:=fun _=>Option U) none (fun c=>bif c then a else b) (Tf c)) c
def QO (i:Nat) (x:Option U):Option U:=
 Option.rec (motive:=fun _=>Option U) none (fun x=>Option.rec (motive:=fun _=>Option U) none (fun l=>nth l i) (Ti x)) x
def Sf (ag:Option (Option Nat)) (cells:List U) (off:Nat):Option U:=
 Option.rec (motive:=fun _=>Option U) none (fun o=>Option.rec (motive:=fun _=>Option U) (nth cells off) (fun n=>bif Nat.ble (Nat.add off n) (du cells) then some (.agg<|takeN (dW cells off) n) else none) o) ag
def CM (ag:Option (Option Nat)) (V:aE) (x:Option U):Option U:=
 Option.rec (motive:=fun _=>Option U) none (fun v=>Option.rec (motive:=fun _=>Option U) none (fun p=>Option.rec (motive:=fun _=>Option U) none
  (fun o=>Option.rec (motive:=fun _=>Option U) none (fun cells=>Sf ag cells p.off) (rowOf o)) (V.m.get p.b))<|R0 v) x
def nM (P:Program) (s:TypeId) (i:Nat):Option Nat:=
 match structOf P s with
 | some fs=>match fs[i]? with
  | some f=>match vG P f.type with
   | some j=>bif Nat.beq j.size 0 then none else some f.offset
   | none=>none
  | none=>none
 | none=>none
def Rr (k:Option Nat) (x:Option U):Option U:=
 Option.rec (motive:=fun _=>Option U) none (fun k=>Option.rec (motive:=fun _=>Option U) none (fun v=>Option.rec (motive:=fun _=>Option U) none (fun p=>some (.ptr p.b<|Nat.add p.off k)) (R0 v)) x) k
structure IA where
 n:Option Nat
 sz:Nat
def xF (P:Program) (t:TypeId):Option IA:=
 match oZ P t with
 | some (.slice e)=>match vG P e with | some j=>some ⟨none,j.size⟩ | none=>none
 | some (.array n e)=>match vG P e with | some j=>some ⟨some n,j.size⟩ | none=>none
 | _=>none
def Sc (q:IA) (v:U) (i:Nat):Option U:=
 Option.rec (motive:=fun _=>Option U)
  (Option.rec (motive:=fun _=>Option U) none (fun s=>bif Nat.ble (Nat.succ i) s.len then some (.ptr s.b<|Nat.add s.off<|Nat.mul i q.sz) else none)<|Th v)
  (fun n=>Option.rec (motive:=fun _=>Option U) none (fun p=>bif Nat.ble (Nat.succ i) n then some (.ptr p.b<|Nat.add p.off<|Nat.mul i q.sz) else none) (R0 v)) q.n
def Rt (q:Option IA) (x i:Option U):Option U:=
 Option.rec (motive:=fun _=>Option U) none (fun q=>Option.rec (motive:=fun _=>Option U) none (fun v=>Option.rec (motive:=fun _=>Option U) none
  (fun w=>Option.rec (motive:=fun _=>Option U) none (fun i=>Sc q v i) (Tg w)) i) x) q
structure RT where
 run:PT U->aE->HR
def B3 (P:Program) (G:Cx) (V:aE) (f:Option U) (args:Option (List U)):HR:=
 Option.rec (motive:=fun _=>HR) (.err 12) (fun g=>Option.rec (motive:=fun _=>HR) (.err 12) (fun args=>y8 P G.ov V g args) args) f
def HM (G:Cx) (l:List Operand) (t:PT U):Option (List U):=dB (fun x=>(nU G x).run t) l
def NM (P:Program) (G:Cx) (op:Op):RT:=
 match op with
 | .move x=>⟨fun t V=>pB V 1001 ((nU G x).run t)⟩
 | .assign x=>⟨fun t V=>pB V 1002 ((nU G x).run t)⟩
 | .pick c a b=>⟨fun t V=>pB V 1003 (GK ((nU G c).run t) ((nU G a).run t) ((nU G b).run t))⟩
 | .binOp o ty x y _=>⟨fun t V=>pB V 1014 (QC (QD P (zy x || zy y) o ty) ((nU G x).run t) ((nU G y).run t))⟩
 | .extract x i=>⟨fun t V=>pB V 1036 (QO i ((nU G x).run t))⟩
 | .load ty x=>⟨fun t V=>pB V 2009 (CM (dZ P ty) V ((nU G x).run t))⟩
 | .fieldAddr s x i=>⟨fun t V=>pB V 1024 (Rr (nM P s i) ((nU G x).run t))⟩
 | .indexAddr ty x i=>⟨fun t V=>pB V 1026 (Rt (xF P ty) ((nU G x).run t) ((nU G i).run t))⟩
 | .call c=>match c.callee with
  | .value f=>⟨fun t V=>B3 P G V ((nU G f).run t) (HM G c.args.toList t)⟩
  | _=>⟨fun t V=>ey P G (bB G t) V (.call c)⟩
 | op=>⟨fun t V=>ey P G (bB G t) V op⟩
theorem K0 (P:Program) (G:Cx) (op:Op) (t:PT U) (V:aE):(NM P G op).run t V=ey P G (bB G t) V op:=by
 cases op with
 | move x=>show pB V 1001 ((nU G x).run t)=_;rw[jc,nf];rfl
 | assign x=>show pB V 1002 ((nU G x).run t)=_;rw[jc,nf];rfl
 | pick c a b=>
  show pB V 1003 (GK ((nU G c).run t) ((nU G a).run t) ((nU G b).run t))=_;rw[jc,jc,jc,nf]
  have:GK (bB G t c) (bB G t a) (bB G t b)=dI P (bB G t) (.pick c a b):=by
   simp only[dI,GK];cases bB G t c with
   | none=>rfl
   | some v=>cases v<;>first | rfl | (rename_i b;cases b<;>rfl)
  rw[this];rfl
 | binOp o ty x y r=>
  show pB V 1014 (QC (QD P (zy x || zy y) o ty) ((nU G x).run t) ((nU G y).run t))=_;rw[jc,jc,nf]
  have:QC (QD P (zy x || zy y) o ty) (bB G t x) (bB G t y)=dI P (bB G t) (.binOp o ty x y r):=by
   simp only[dI,QC];cases bB G t x with
   | none=>rfl
   | some v=>
    cases bB G t y with
    | none=>rfl
    | some u=>exact O7 P _ o ty v u
  rw[this];rfl
 | extract x i=>
  show pB V 1036 (QO i ((nU G x).run t))=_;rw[jc,nf]
  have:QO i (bB G t x)=dI P (bB G t) (.extract x i):=by
   simp only[dI,QO];cases bB G t x with
   | none=>rfl
   | some v=>cases v<;>rfl
  rw[this];rfl
 | load ty x=>
  show pB V 2009 (CM (dZ P ty) V ((nU G x).run t))=_;rw[jc,nf]
  have:CM (dZ P ty) V (bB G t x)=gq P (bB G t) V (.load ty x):=by
   simp only[gq,CM];cases bB G t x with
   | none=>rfl
   | some v=>
    cases v<;>first | rfl | skip
    rename_i b off;show Option.rec (motive:=fun _=>Option U) none _ (V.m.get b)=_;cases hb:V.m.get b with
    | none=>dsimp only;rw[hb]
    | some o=>
     dsimp only;rw[hb];cases o<;>first | rfl | skip
     all_goals
      show Sf (dZ P ty) _ off=_;unfold Sf;cases dZ P ty with
      | none=>rfl
      | some q=>cases q<;>rfl
  rw[this];rfl
 | fieldAddr s x i=>
  show pB V 1024 (Rr (nM P s i) ((nU G x).run t))=_;rw[jc,nf]
  have:Rr (nM P s i) (bB G t x)=dI P (bB G t) (.fieldAddr s x i):=by
   simp only[dI,nM,pR];cases structOf P s with
   | none=>rfl
   | some fs=>
    dsimp only;cases hx:bB G t x with
    | none=>
     cases fs[i]? with
     | none=>rfl
     | some f=>dsimp only;cases P.info? f.type with
      | none=>rfl
      | some j=>dsimp only;cases Nat.beq j.size 0<;>rfl
    | some v=>
     cases hf:fs[i]? with
     | none=>cases v<;>first | rfl | (simp only[hf];rfl)
     | some f=>
      dsimp only;cases hj:P.info? f.type with
      | none=>cases v<;>first | rfl | (simp only[hf,hj];rfl)
      | some j=>
       dsimp only;cases w:Nat.beq j.size 0<;>(cases v<;>first | rfl | (simp only[hf,hj,w];rfl))
  rw[this];rfl
 | indexAddr ty x i=>
  show pB V 1026 (Rt (xF P ty) ((nU G x).run t) ((nU G i).run t))=_;rw[jc,jc,nf]
  have:Rt (xF P ty) (bB G t x) (bB G t i)=dI P (bB G t) (.indexAddr ty x i):=by
   simp only[dI,xF,pR,oj];cases hu:P.underlying ty with
   | none=>rfl
   | some d=>
    cases d<;>first | rfl | skip
    all_goals
     dsimp only;rename_i e;cases hj:P.info? e with
     | none=>
      cases bB G t x with
      | none=>rfl
      | some v=>cases v<;>first | rfl | (cases bB G t i with
       | none=>rfl
       | some u=>cases u<;>first | rfl | (rename_i k n;cases n<;>first | rfl | (simp only[hj];rfl)))
     | some j=>
      cases bB G t x with
      | none=>rfl
      | some v=>cases v<;>first | (cases bB G t i with
       | none=>rfl
       | some u=>cases u<;>first | rfl | (rename_i k n;cases n<;>first | rfl | (simp only[hj];rfl)))
  rw[this];rfl
 | call c=>
  cases hc:c.callee with
  | value f=>
   have h1:(NM P G (.call c)).run t V=B3 P G V ((nU G f).run t) (HM G c.args.toList t):=by
    show(match c.callee with
     | .value f=>(⟨fun t V=>B3 P G V ((nU G f).run t) (HM G c.args.toList t)⟩:RT)
     | _=>⟨fun t V=>ey P G (bB G t) V (.call c)⟩).run t V=_
    rw[hc]
   have z:ey P G (bB G t) V (.call c)=ig P G.ov (bB G t) V (.call c):=by
    grind [ey,kindOf]
   have A:HM G c.args.toList t=nL (bB G t) c.args.toList:=by
    unfold HM nL;congr 1;funext x;exact jc G x t
   rw[h1,z,jc,A];simp only[ig,hc,B3];cases bB G t f with
   | none=>rfl
   | some g=>cases nL (bB G t) c.args.toList<;>rfl
  | _=>
   show(match c.callee with
     | .value f=>(⟨fun t V=>B3 P G V ((nU G f).run t) (HM G c.args.toList t)⟩:RT)
     | _=>⟨fun t V=>ey P G (bB G t) V (.call c)⟩).run t V=_
   rw[hc]
 | _=>rfl
structure Qz where
 run:PT U->U->Nat->(PT U->CR)->CR
structure Te where
 run:U->PT U->PT U
def Jc (j:Nat):Te:=
 bif Nat.ble j 255 then⟨fun v t=>PT.rec (motive:=fun _=>PT U) (fun s m l=>⟨(yK<|Nat.div j 16).run s ((yK<|Nat.mod j 16).run ((jU<|Nat.div j 16).run s)<|some v),m,l⟩) t⟩
 else⟨fun v t=>t.put (some v) j⟩
theorem PU (j:Nat) (v:U) (t:PT U):(Jc j).run v t=t.put (some v) j:=by
 unfold Jc;cases h:Nat.ble j 255 with
 | true=>
  cases t with
  | mk s m l=>exact(PT.tD (some v) s m l ((ox j 255).1 h)).symm
 | false=>rfl
def PV (j:Nat) (v:U) (t:PT U):PT U:=(Jc j).run v t
theorem NV (j:Nat) (v:U) (t:PT U):PV j v t=t.put (some v) j:=PU j v t
def zP (n:Nat) (dst:Option Nat):Qz:=
 match dst with
 | none=>⟨fun t _ _ k=>k t⟩
 | some j=>bif Nat.ble (Nat.succ j) n then⟨fun t v _ k=>k (PV j v t)⟩ else⟨fun _ _ e _=>.err e⟩
theorem yh (n:Nat) (dst:Option Nat) (t:PT U) (v:U) (e:Nat) (k:PT U->CR):(zP n dst).run t v e k=match dJ t n dst v with | some t'=>k t' | none=>.err e:=by
 cases dst with
 | none=>rfl
 | some j=>
  show(bif Nat.ble (Nat.succ j) n then(⟨fun t v _ k=>k (PV j v t)⟩:Qz) else⟨fun _ _ e _=>.err e⟩).run t v e k=_;show _=match(bif Nat.ble (Nat.succ j) n then some (t.put (some v) j) else none) with | some t'=>k t' | none=>.err e
  rw[<-NV]
  grind
structure Ta where
 run:j1->List U->aE->KR
def SB (P:Program) (G:Cx) (ih:j1) (fn:Func) (r:CR):KR:=
 match r with
 | .ok .normal t d V=>yP P G ih fn .ret t d V
 | .ok .ret t d V=>yP P G ih fn .ret t d V
 | .ok (.ki v) t d V=>yP P G ih fn (.ki v) t d V
 | .err k=>.err k
 | _=>.err 72
def Pt (P:Program) (G:Cx) (fn:Func) (c:Code) (ih:j1) (args:List U) (V:aE):KR:=
 Option.rec (motive:=fun _=>KR) (.err 73) (fun t=>SB P G ih fn (ih c t fn.ntmps [] none V)) (rD fn.ntmps args)
def Sa (P:Program) (G:Cx) (f:Nat):Ta:=
 match nth P.funcs.toList f with
 | some fn=>match fn.body with
  | some c=>⟨Pt P G fn c⟩
  | none=>⟨fun _ _ _=>.err 73⟩
 | none=>⟨fun _ _ _=>.err 74⟩
theorem Ps (P:Program) (G:Cx) (f:Nat) (ih:j1) (args:List U) (V:aE):(Sa P G f).run ih args V=mR P G ih f args V:=by
 unfold Sa mR;rw[fG,aT_];cases P.funcs[f]? with
 | none=>rfl
 | some fn=>
  dsimp only;cases hb:fn.body with
  | none=>rfl
  | some c=>
   dsimp only;show Pt P G fn c ih args V=_;unfold Pt;cases rD fn.ntmps args with
   | none=>rfl
   | some t=>rfl
def B1 (P:Program) (G:Cx) (ih:j1) (f:Nat) (args:List U) (V:aE):KR:=
 Option.rec (motive:=fun _=>KR) (Option.rec (motive:=fun _=>KR) (Option.rec (motive:=fun _=>KR) (bif G.fk f then uI (Ki P G ih f args V) else(Sa P G f).run ih args V) (fun c=>.err c)<|G.stop f args V) (fun v=>bif fx args && (ph v && uD G.gl V G.laid) then .ret v V else .err 79)<|G.LX f args) (fun v=>bif ph v then .ret v V else .err 78) (G.Kx f args V)
theorem B2 (P:Program) (G:Cx) (ih:j1) (f:Nat) (args:List U) (V:aE):B1 P G ih f args V=lr P G ih f args V:=by
 unfold B1 lr;rw[Ps];cases G.Kx f args V with
 | some v=>rfl
 | none=>
 dsimp only;cases G.LX f args with
 | some v=>rfl
 | none=>
  dsimp only;cases G.stop f args V<;>rfl
structure MC where
 run:j1->PT U->aE->(PT U->aE->CR)->CR
def Mu (k:PT U->aE->CR) (V:aE) (t:PT U):CR:=k t V
def Ru (pn:Bool) (c:Qz) (t:PT U) (k:PT U->aE->CR) (r:KR):CR:=
 KR.rec (motive:=fun _=>CR) (fun v V=>c.run t v 80 (Mu k V)) (fun v V=>NQ pn v t V) (fun e=>.err e) r
def Nv (P:Program) (G:Cx) (ih:j1) (pn:Bool) (c:Qz) (t:PT U) (k:PT U->aE->CR) (r:HR):CR:=
 HR.rec (motive:=fun _=>CR) (fun v V=>c.run t v 80 (Mu k V)) (fun V=>c.run t unit 80 (Mu k V)) (fun f args V=>Ru pn c t k (B1 P G ih f args V)) (fun l args V=>Ru pn c t k (mB ih l args V)) (fun v V=>NQ pn v t V) (fun e=>.err e) r
def Mg (ops:Array Oper) (o:Oper) (c:Qz) (t:PT U) (V:aE) (k:PT U->aE->CR) (go:CR) (w:Option Bool):CR:=
 Option.rec (motive:=fun _=>CR) (.err 85) (fun b=>bif b then go else c.run t unit 84 (Mu k V)) w
def S6 (P:Program) (G:Cx) (j:Nat) (op:Op):Option MC:=
 match op with
 | .move x=>some ⟨fun _ t V k=>Option.rec (motive:=fun _=>CR) (.err 1001) (fun v=>k ((Jc j).run v t) V) ((nU G x).run t)⟩
 | .assign x=>some ⟨fun _ t V k=>Option.rec (motive:=fun _=>CR) (.err 1002) (fun v=>k ((Jc j).run v t) V) ((nU G x).run t)⟩
 | .binOp o ty x y _=>some ⟨fun _ t V k=>Option.rec (motive:=fun _=>CR) (.err 1014) (fun v=>k ((Jc j).run v t) V) (QC (QD P (zy x || zy y) o ty) ((nU G x).run t) ((nU G y).run t))⟩
 | .extract x i=>some ⟨fun _ t V k=>Option.rec (motive:=fun _=>CR) (.err 1036) (fun v=>k ((Jc j).run v t) V) (QO i ((nU G x).run t))⟩
 | .load ty x=>some ⟨fun _ t V k=>Option.rec (motive:=fun _=>CR) (.err 2009) (fun v=>k ((Jc j).run v t) V) (CM (dZ P ty) V ((nU G x).run t))⟩
 | .fieldAddr s x i=>some ⟨fun _ t V k=>Option.rec (motive:=fun _=>CR) (.err 1024) (fun v=>k ((Jc j).run v t) V) (Rr (nM P s i) ((nU G x).run t))⟩
 | .indexAddr ty x i=>some ⟨fun _ t V k=>Option.rec (motive:=fun _=>CR) (.err 1026) (fun v=>k ((Jc j).run v t) V) (Rt (xF P ty) ((nU G x).run t) ((nU G i).run t))⟩
 | _=>none
theorem P9 {P:Program} {G:Cx} {pn:Bool} {n j:Nat} (hj:Nat.ble (Nat.succ j) n=true) {op:Op} {c:MC} (h:S6 P G j op=some c) (ih:j1) (t:PT U) (V:aE) (k:PT U->aE->CR):
  c.run ih t V k=Nv P G ih pn (zP n<|some j) t k ((NM P G op).run t V):=by
 have key:∀(e:Nat) (x:Option U),Option.rec (motive:=fun _=>CR) (.err e) (fun v=>k ((Jc j).run v t) V) x=Nv P G ih pn (zP n<|some j) t k (pB V e x):=by
  intro e x;cases x with
  | none=>rfl
  | some v=>
   show k ((Jc j).run v t) V=(zP n<|some j).run t v 80 (Mu k V);unfold zP;dsimp only;rw[hj];rfl
 cases op<;>first | (cases h;done) | (cases h;exact key _ _)
def SH (P:Program) (G:Cx) (pn:Bool) (n:Nat) (o:Oper):MC:=
 match o.dst with
 | some j=>bif Nat.ble (Nat.succ j) n then(match S6 P G j o.op with | some c=>c | none=>⟨fun ih t V k=>Nv P G ih pn (zP n<|some j) t k ((NM P G o.op).run t V)⟩) else⟨fun ih t V k=>Nv P G ih pn (zP n<|some j) t k ((NM P G o.op).run t V)⟩
 | none=>⟨fun ih t V k=>Nv P G ih pn (zP n none) t k ((NM P G o.op).run t V)⟩
theorem P8 (P:Program) (G:Cx) (pn:Bool) (n:Nat) (o:Oper) (ih:j1) (t:PT U) (V:aE) (k:PT U->aE->CR):(SH P G pn n o).run ih t V k=Nv P G ih pn (zP n o.dst) t k ((NM P G o.op).run t V):=by
 unfold SH;cases hd:o.dst with
 | none=>rfl
 | some j=>
  dsimp only;cases hj:Nat.ble (Nat.succ j) n with
  | false=>rfl
  | true=>
   simp only[cond_true]
   grind [P9]
def My (P:Program) (G:Cx) (pn:Bool) (ops:Array Oper) (n:Nat) (o:Oper):MC:=
 match o.guard with
 | none=>SH P G pn n o
 | some _=>⟨fun ih t V k=>Mg ops o (zP n o.dst) t V k (Nv P G ih pn (zP n o.dst) t k ((NM P G o.op).run t V)) (bM ops t o)⟩
theorem Kq (P:Program) (G:Cx) (ih:j1) (pn:Bool) (n:Nat) (dst:Option Nat) (t:PT U) (k:PT U->aE->CR) (r:HR):
  Nv P G ih pn (zP n dst) t k r=match lj P G ih r with | .ret v V'=>(match dJ t n dst v with | some t'=>k t' V' | none=>.err 80) | .ki v V'=>NQ pn v t V' | .err e=>.err e:=by
 cases r with
 | val v V=>show(zP n dst).run t v 80 (Mu k V)=_;rw[yh];rfl
 | skip V=>show(zP n dst).run t unit 80 (Mu k V)=_;rw[yh];rfl
 | enter f args V=>
  show Ru pn (zP n dst) t k (B1 P G ih f args V)=_;rw[B2];show _=match lr P G ih f args V with | .ret v V'=>_ | .ki v V'=>_ | .err e=>_
  cases lr P G ih f args V with
  | ret v V'=>show(zP n dst).run t v 80 (Mu k V')=_;rw[yh];rfl
  | ki v V'=>rfl
  | err e=>rfl
 | round l args V=>
  show Ru pn (zP n dst) t k (mB ih l args V)=_;show _=match mB ih l args V with | .ret v V'=>_ | .ki v V'=>_ | .err e=>_
  cases mB ih l args V with
  | ret v V'=>show(zP n dst).run t v 80 (Mu k V')=_;rw[yh];rfl
  | ki v V'=>rfl
  | err e=>rfl
 | ki v V=>rfl
 | err e=>rfl
theorem FE (P:Program) (G:Cx) (pn:Bool) (ops:Array Oper) (n:Nat) (o:Oper) (ih:j1) (t:PT U) (V:aE) (k:PT U->aE->CR):(My P G pn ops n o).run ih t V k=iB P G ih pn ops n o t V k:=by
 unfold My iB;cases hg:o.guard with
 | none=>
  grind [bM,P8,Kq,K0]
 | some jw=>
  show Mg ops o (zP n o.dst) t V k (Nv P G ih pn (zP n o.dst) t k ((NM P G o.op).run t V)) (bM ops t o)=_;rw[Kq,K0];unfold Mg;cases bM ops t o with
  | none=>rfl
  | some b=>
   grind [Mu,yh]
def N5 (P:Program) (G:Cx) (ops:Array Oper) (n:Nat) (l:List Oper):MC:=
 List.rec (motive:=fun _=>MC) ⟨fun _ t V k=>k t V⟩ (fun o _ c=>⟨fun ih t V k=>(My P G true ops n o).run ih t V (fun t V=>c.run ih t V k)⟩) l
def yO (d:List DE) (t:PT U) (V:aE):CR:=.ok .normal t d V
theorem GW (P:Program) (G:Cx) (ops:Array Oper) (n:Nat) (ih:j1) (d:List DE):∀(l:List Oper) (t:PT U) (V:aE),(N5 P G ops n l).run ih t V (yO d)=tw P G ih ops n d l t V
 | [],t,V=>rfl
 | o::l,t,V=>by
  show(My P G true ops n o).run ih t V (fun t V=>(N5 P G ops n l).run ih t V (yO d))=iB P G ih true ops n o t V (tw P G ih ops n d l);rw[FE];congr 1;funext t' V';exact GW P G ops n ih d l t' V'
def Ac (P:Program) (G:Cx) (ops:Array Oper) (rc:List Nat) (k:PT U->aE->CR) (t:PT U) (V:aE):CR:=bif dk P G ops t V rc then k t V else .err 86
def yf (P:Program) (G:Cx) (ops:Array Oper) (n:Nat) (l:List (Nat×List Nat)):MC:=
 List.rec (motive:=fun _=>MC) ⟨fun _ t V k=>k t V⟩ (fun p _ c=>match nth ops.toList p.1 with
  | some o=>(match p.2 with
   | []=>⟨fun ih t V k=>(My P G false ops n o).run ih t V (fun t V=>c.run ih t V k)⟩
   | rc=>⟨fun ih t V k=>(My P G false ops n o).run ih t V (Ac P G ops rc (fun t V=>c.run ih t V k))⟩)
  | none=>⟨fun _ _ _ _=>.err 87⟩) l
theorem yg (P:Program) (G:Cx) (ops:Array Oper) (n:Nat) (ih:j1) (d:List DE):∀(l:List (Nat×List Nat)) (t:PT U) (V:aE),(yf P G ops n l).run ih t V (yO d)=jR P G ih ops n d l t V
 | [],t,V=>rfl
 | (i,rc)::l,t,V=>by
  show(match nth ops.toList i with
   | some o=>(match rc with
    | []=>(⟨fun ih t V k=>(My P G false ops n o).run ih t V (fun t V=>(yf P G ops n l).run ih t V k)⟩:MC)
    | rc=>⟨fun ih t V k=>(My P G false ops n o).run ih t V (Ac P G ops rc (fun t V=>(yf P G ops n l).run ih t V k))⟩)
   | none=>⟨fun _ _ _ _=>.err 87⟩).run ih t V (yO d)=(match ops[i]? with
   | some o=>iB P G ih false ops n o t V (fun t' V'=>bif dk P G ops t' V' rc then jR P G ih ops n d l t' V' else .err 86)
   | none=>.err 87)
  rw[fG,aT_];cases ops[i]? with
  | none=>rfl
  | some o=>
   dsimp only;cases rc with
   | nil=>
    show(My P G false ops n o).run ih t V (fun t V=>(yf P G ops n l).run ih t V (yO d))=_;rw[FE];congr 1;funext t' V';exact yg P G ops n ih d l t' V'
   | cons q rc=>
    show(My P G false ops n o).run ih t V (Ac P G ops (q::rc) (fun t V=>(yf P G ops n l).run ih t V (yO d)))=_;rw[FE];congr 1;funext t' V';unfold Ac;dsimp only;rw[yg P G ops n ih d l t' V']
structure RR where
 run:j1->PT U->List DE->Option Pos->aE->CR
def R3 (P:Program) (G:Cx) (c:Code) (n:Nat):RR:=
 match c with
 | .skip | .label _=>⟨fun _ t d _ V=>.ok .normal t d V⟩
 | .region _ ops draw=>bif draw then(bif ux P ops then⟨fun ih t d _ V=>(yf P G ops n<|jQ P ops).run ih t V (yO d)⟩ else⟨fun _ _ _ _ _=>.err 88⟩)
   else(bif mh ops.toList then⟨fun _ _ _ _ _=>.err 96⟩ else⟨fun ih t d _ V=>Cr d ((N5 P G ops n ops.toList).run ih t V<|yO d)⟩)
 | .seq a b=>⟨fun ih t d ro V=>wa (ih a t n d ro V) (fun t d V=>ih b t n d ro V)⟩
 | .cond x a b=>⟨fun ih t d ro V=>ze ((nU G x).run t) (ih a t n d ro V) (ih b t n d ro V)⟩
 | .block id b=>⟨fun ih t d ro V=>r9 id (ih b t n d ro V)⟩
 | .scope b=>⟨fun ih t d ro V=>FA (ih b t n d ro V)⟩
 | .loop b=>⟨fun ih t d ro V=>wa (ih b t n d ro V) (fun t d V=>ih (.loop b) t n d ro V)⟩
 | .exit id=>⟨fun _ t d _ V=>.ok (.exit id) t d V⟩
 | .ret=>⟨fun _ t d _ V=>.ok .ret t d V⟩
 | .rangeFunc g ps assign body=>⟨fun ih t d ro V=>uP P G ih g ps assign body t n d ro V⟩
 | _=>⟨fun _ _ _ _ _=>.err 99⟩
theorem Pa (P:Program) (G:Cx) (c:Code) (n:Nat) (ih:j1) (t:PT U) (d:List DE) (ro:Option Pos) (V:aE):(R3 P G c n).run ih t d ro V=G4 P G ih c t n d ro V:=by
 cases c with
 | region id ops draw=>
  cases draw with
  | false=>
   show(bif mh ops.toList then(⟨fun _ _ _ _ _=>.err 96⟩:RR) else⟨fun ih t d _ V=>Cr d ((N5 P G ops n ops.toList).run ih t V<|yO d)⟩).run ih t d ro V=bif mh ops.toList then .err 96 else Cr d (tw P G ih ops n d ops.toList t V)
   grind [GW]
  | true=>
   show(bif ux P ops then(⟨fun ih t d _ V=>(yf P G ops n<|jQ P ops).run ih t V (yO d)⟩:RR) else⟨fun _ _ _ _ _=>.err 88⟩).run ih t d ro V=vB P G ih ops n d t V
   grind [vB,yg]
 | cond x a b=>show ze ((nU G x).run t) _ _=_;rw[jc];rfl
 | _=>rfl
def P5 (P:Program) (G:Cx) (fuel:Nat):j1:=Nat.rec (motive:=fun _=>j1) (fun _ _ _ _ _ _=>.err 100) (fun _ ih c t n d ro V=>(R3 P G c n).run ih t d ro V) fuel
theorem G0 (P:Program) (G:Cx):∀(fuel:Nat),P5 P G fuel=ep P G fuel
 | 0=>rfl
 | k+1=>by
  funext c t n d ro V;show(R3 P G c n).run (P5 P G k) t d ro V=G4 P G (ep P G k) c t n d ro V;rw[Pa,G0 P G k]
def Cn (P:Program) (G:Cx) (fuel:Nat) (f:Nat) (args:List U) (V:aE):KR:=B1 P G (P5 P G fuel) f args V
theorem J5 (P:Program) (G:Cx) (fuel:Nat) (f:Nat) (args:List U) (V:aE):Cn P G fuel f args V=xn P G fuel f args V:=by
 unfold Cn xn;rw[B2,G0]
end Go.Ev
namespace Go.Ev
variable [Env]
open Go.ChangeShapes Go.WideShapes Go.ChangeAt Go.RowKit
theorem wL {α β:Type} {f:α->Option β}:∀{l:List α} {r:List β},dB f l=some r->r.length=l.length/\∀(i:Nat) (v:β),r[i]?=some v->∃y,l[i]?=some y/\f y=some v
 | [],r,h=>by
  rw[hJ] at h;simp_all
 | x::l,r,h=>by
  obtain⟨y,r',h1,j,rfl⟩:=gw h;obtain⟨k1,k2⟩:=wL j
  grind
theorem uf.of {w:World} {g:Nat} {cells:List U} {vs:List Value} {e:TypeId} {fr:Nat×Nat} (hb:w.heap[g]?=some (.cells vs.toArray e fr)) (hv:dB oK vs=some cells):uf w (g,cells):=by
 obtain⟨j,k2⟩:=wL hv;refine⟨vs.toArray,e,fr,hb,by simp[j],fun i v hi=>?_⟩
 grind [oL]
def VG (gl:Nat) (l:List (Nat×List U)) (E:Nat->TypeId):aE:=⟨gl,KB l E⟩
theorem VG_get {gl:Nat} {l:List (Nat×List U)} {E:Nat->TypeId} {b:Nat} {o:cD} (h:(VG gl l E).m.get b=some o):∃x∈l,x.1=b/\o= .row x.2 (E x.1) true:=E1 E h
def Bh (w:World) (b:Nat):Nat:=
 match w.heap[b]? with
 | some (.cells cs _ _)=>cs.size
 | _=>0
def elemAt (w:World) (b:Nat):TypeId:=
 match w.heap[b]? with
 | some (.cells _ e _)=>e
 | _=>0
def ρG (w:World) (gl:Nat):dh:=fun b=>if b<gl then some ⟨b,0,Bh w b⟩ else none
theorem JG_some {w:World} {gl:Nat} {b:Nat} {l:Loc} (h:ρG w gl b=some l):b<gl/\l=⟨b,0,Bh w b⟩:=by
 unfold ρG at h
 simp_all
def FV (gl:Nat) (l:List (Nat×List U)):Bool:=l.all fun x=>Nat.blt x.1 gl && fx x.2
theorem Se {w:World} {gl:Nat} {l:List (Nat×List U)} (B:Hi w) (ab:gl<=w.heap.size) (u:FV gl l=true) (hl:∀x∈l,uf w x):Inv (ρG w gl) (VG gl l<|elemAt w) w:=by
 have aa:∀x∈l,x.1<gl/\fx x.2=true:=fun x hx=>by
  have:=aE_.1 u x hx
  simp_all
 refine⟨⟨fun b hb=>?_,fun b l' h=>?_,fun b o l' h1 j=>?_,fun b b' o o' l1 l2 h1 j h3 h4 he ac=>?_⟩,B.1,B.2,fun r _ ⟨b,o,l',h1,j,_,_⟩=>by
  obtain⟨x,_,_,rfl⟩:=VG_get h1;cases j⟩
 ·have z:¬b<gl:=Nat.not_lt.2 hb;refine⟨by unfold ρG;rw[if_neg z],?_⟩;cases h:(VG gl l<|elemAt w).m.get b with
  | none=>rfl
  | some o=>
   obtain⟨x,hx,rfl,_⟩:=VG_get h
   grind
 ·obtain⟨hb,rfl⟩:=JG_some h
  grind
 ·obtain⟨x,hx,rfl,rfl⟩:=VG_get h1;obtain⟨hb,rfl⟩:=JG_some j;obtain⟨c,e,fr,A,k2,k3⟩:=hl x hx;have C:Bh w x.1=c.size:=by unfold Bh;rw[A]
  have he:elemAt w x.1=e:=by unfold elemAt;rw[A]
  refine⟨_,A,c,fr,by rw[he],?_,?_,fun i v hv=>?_,fun h=>by cases h⟩
  ·simp[C]
  ·simp_all
  grind [nO,kP]
 obtain⟨x,hx,rfl,rfl⟩:=VG_get h1;obtain⟨y,hy,rfl,rfl⟩:=VG_get j;exact⟨Z,Z⟩
theorem ke.NK {w w':World} {gl:Nat} {l:List (Nat×List U)} {E:Nat->TypeId} {J J':dh} {V':aE} (h:eW J (VG gl l E) w J' V' w'):ke w w':=
 ⟨h.os,h.out,h.tape,h.size,fun r j=>h.frame r j fun⟨b,o,l',h1,m,_⟩=>by
  obtain⟨x,_,_,rfl⟩:=VG_get h1;cases m⟩
def qo:KR->Bool
 | .ret (.bool true) _=>true
 | _=>false
theorem Be {r:KR} (h:qo r=true):∃V,r= .ret (.bool true) V:=by
 unfold qo at h
 grind
theorem Eo {P:Program} {G:Cx} (hm:P.follows .mixedOrders=true) (u:BG P G) {fuel f:Nat} {w:World} (z:Hi w) (j:G.gl<=w.heap.size) (m:FV G.gl G.laid=true) (hl:∀x∈G.laid,uf w x)
  (h:∀E,qo (Cn P G fuel f [] (VG G.gl G.laid E))=true):Calls P f #[] w fun e w'=>e= .returned (.bool true)/\ke w w':=by
 have h:=h (elemAt w);rw[J5] at h;obtain⟨V,h⟩:=Be h;refine pM hm u h (Se z j m hl) (fun g A=>⟨_,by show ρG w G.gl g=_;unfold ρG;rw[if_pos A]⟩) dw.nil fun J' w' x _ st hv=>?_
 grind [VR,ke.NK]
theorem E0 {P:Program} {G:Cx} (hm:P.follows .mixedOrders=true) (u:BG P G) {fuel f:Nat} (j:FV G.gl G.laid=true) (h:∀E,qo (Cn P G fuel f [] (VG G.gl G.laid E))=true):F2 P G.gl G.laid f [] (.bool true):=fun w xs m z hl hx=>by
 have:xs= #[]:=by
  have:=hx.eP
  simp_all
 subst this;exact(Eo hm u (w:=w) z m j hl h).mono fun e w' ⟨h1,A⟩=>⟨_,h1,by simp only[VR],A⟩
end Go.Ev
namespace Go.Ev
variable [Env]
section
variable {P:Program} {G:Cx}
def Ev (P:Program) (G:Cx) (c:Code) (n:Nat) (t:PT U) (V:aE) (Q:Ex->PT U->aE->Prop):Prop:=
 ∃(K:Nat) (e:Ex) (t':PT U) (V':aE),(∀d ro k,K<=k->ep P G k c t n d ro V= .ok e t' d V')/\Q e t' V'
def bu (P:Program) (G:Cx) (f:Nat) (args:List U) (V:aE) (R:U->aE->Prop):Prop:=
 ∃(K:Nat) (v:U) (V':aE),(∀k,K<=k->lr P G (ep P G k) f args V= .ret v V')/\R v V'
def bS (P:Program) (G:Cx) (ops:Array Oper) (n:Nat) (l:List Oper) (t:PT U) (V:aE) (Q:Ex->PT U->aE->Prop):Prop:=
 ∃(K:Nat) (e:Ex) (t':PT U) (V':aE),(∀d k,K<=k->tw P G (ep P G k) ops n d l t V= .ok e t' d V')/\Q e t' V'
def cm (P:Program) (G:Cx) (ops:Array Oper) (n:Nat) (l:List (Nat×List Nat)) (t:PT U) (V:aE) (Q:Ex->PT U->aE->Prop):Prop:=
 ∃(K:Nat) (e:Ex) (t':PT U) (V':aE),(∀d k,K<=k->jR P G (ep P G k) ops n d l t V= .ok e t' d V')/\Q e t' V'
theorem Ev.mono {c:Code} {n:Nat} {t:PT U} {V:aE} {Q Q':Ex->PT U->aE->Prop} (h:Ev P G c n t V Q) (hq:∀e t' V',Q e t' V'->Q' e t' V'):Ev P G c n t V Q':=
 let ⟨K,e,t',V',h1,j⟩:=h;⟨K,e,t',V',h1,hq _ _ _ j⟩
theorem bu.mono {f:Nat} {args:List U} {V:aE} {R R':U->aE->Prop} (h:bu P G f args V R) (hq:∀v V',R v V'->R' v V'):bu P G f args V R':=
 let ⟨K,v,V',h1,j⟩:=h;⟨K,v,V',h1,hq _ _ j⟩
section
variable {n:Nat} {t:PT U} {V:aE} {Q:Ex->PT U->aE->Prop}
theorem aG (h:Q .normal t V):Ev P G .skip n t V Q:=⟨1,.normal,t,V,fun d ro k hk=>by obtain⟨j,rfl⟩:∃j,k=j+1:=⟨k-1,by omega⟩;rfl,h⟩
theorem J1 {l:Nat} (h:Q .normal t V):Ev P G (.label l) n t V Q:=⟨1,.normal,t,V,fun d ro k hk=>by obtain⟨j,rfl⟩:∃j,k=j+1:=⟨k-1,by omega⟩;rfl,h⟩
theorem bg {id:Nat} (h:Q (.exit id) t V):Ev P G (.exit id) n t V Q:=⟨1,_,t,V,fun d ro k hk=>by obtain⟨j,rfl⟩:∃j,k=j+1:=⟨k-1,by omega⟩;rfl,h⟩
theorem aF (h:Q .ret t V):Ev P G .ret n t V Q:=⟨1,_,t,V,fun d ro k hk=>by obtain⟨j,rfl⟩:∃j,k=j+1:=⟨k-1,by omega⟩;rfl,h⟩
def dq (P:Program) (G:Cx) (n:Nat) (b:Code) (Q:Ex->PT U->aE->Prop) (e:Ex) (t:PT U) (V:aE):Prop:=
 match e with
 | .normal=>Ev P G b n t V Q
 | e=>Q e t V
theorem al {a b:Code} (h:Ev P G a n t V (dq P G n b Q)):Ev P G (.seq a b) n t V Q:=by
 obtain⟨K,e,t',V',h1,m⟩:=h
 have step:∀d ro k,K<=k->ep P G (k+1) (.seq a b) t n d ro V=wa (.ok e t' d V') (fun t d V=>ep P G k b t n d ro V):=fun d ro k hk=>by
  show wa (ep P G k a t n d ro V) (fun t d V=>ep P G k b t n d ro V)=_;rw[h1 d ro k hk]
 cases e with
 | normal=>
  obtain⟨u,w,z,A,B,h4⟩:=m;refine⟨max K u+1,w,z,A,fun d ro k hk=>?_,h4⟩;obtain⟨j,rfl⟩:∃j,k=j+1:=⟨k-1,by omega⟩;rw[step d ro j oM];exact B d ro j oM
 | _=>
  refine⟨K+1,_,t',V',fun d ro k hk=>?_,m⟩;obtain⟨j,rfl⟩:∃j,k=j+1:=⟨k-1,by omega⟩;rw[step d ro j oM];rfl
theorem Av {x:Operand} {a b:Code} {c:Bool} (hc:bB G t x=some (.bool c)) (h:Ev P G (if c then a else b) n t V Q):Ev P G (.cond x a b) n t V Q:=by
 obtain⟨K,e,t',V',h1,m⟩:=h;refine⟨K+1,e,t',V',fun d ro k hk=>?_,m⟩;obtain⟨j,rfl⟩:∃j,k=j+1:=⟨k-1,by omega⟩;show ze (bB G t x) (ep P G j a t n d ro V) (ep P G j b t n d ro V)=_;rw[hc];have:=h1 d ro j oM;cases c<;>exact this
def ic (id:Nat) (Q:Ex->PT U->aE->Prop) (e:Ex) (t:PT U) (V:aE):Prop:=
 match e with
 | .exit j=>if j=id then Q .normal t V else Q (.exit j) t V
 | e=>Q e t V
theorem aJ {id:Nat} {b:Code} (h:Ev P G b n t V (ic id Q)):Ev P G (.block id b) n t V Q:=by
 obtain⟨K,e,t',V',h1,m⟩:=h
 have step:∀d ro k,K<=k->ep P G (k+1) (.block id b) t n d ro V=r9 id (.ok e t' d V'):=fun d ro k hk=>by
  show r9 id (ep P G k b t n d ro V)=_;rw[h1 d ro k hk]
 cases e with
 | exit q=>
  by_cases hq:q=id
  ·subst hq;refine⟨K+1,.normal,t',V',fun d ro k hk=>?_,by simpa [ic] using m⟩;obtain⟨j,rfl⟩:∃j,k=j+1:=⟨k-1,by omega⟩;rw[step d ro j oM];show(bif Nat.beq q q then _ else _)=_
   simp_all
  refine⟨K+1,.exit q,t',V',fun d ro k hk=>?_,by simpa [ic,hq] using m⟩;obtain⟨j,rfl⟩:∃j,k=j+1:=⟨k-1,by omega⟩;rw[step d ro j oM];show(bif Nat.beq q id then _ else _)=_
  grind [nB]
 | _=>
  refine⟨K+1,_,t',V',fun d ro k hk=>?_,m⟩;obtain⟨j,rfl⟩:∃j,k=j+1:=⟨k-1,by omega⟩;rw[step d ro j oM];rfl
theorem Ni {b:Code} (I:Nat->PT U->aE->Prop) (step:∀j t V,I j t V->Ev P G b n t V (fun e t' V'=>match e with | .normal=>∃i,i<j/\I i t' V' | e=>Q e t' V')):
  ∀(j:Nat) (t:PT U) (V:aE),I j t V->Ev P G (.loop b) n t V Q:=by
 intro j;induction j using Nat.strongRecOn with
 | _ j ih=>
  intro t V w;obtain⟨K,e,t',V',h1,u⟩:=step j t V w
  have st:∀d ro k,K<=k->ep P G (k+1) (.loop b) t n d ro V=wa (.ok e t' d V') (fun t d V=>ep P G k (.loop b) t n d ro V):=fun d ro k hk=>by
   show wa (ep P G k b t n d ro V) (fun t d V=>ep P G k (.loop b) t n d ro V)=_;rw[h1 d ro k hk]
  cases e with
  | normal=>
   obtain⟨i,hi,m⟩:=u;obtain⟨z,A,B,C,E,h4⟩:=ih i hi t' V' m;refine⟨max K z+1,A,B,C,fun d ro k hk=>?_,h4⟩;obtain⟨q,rfl⟩:∃q,k=q+1:=⟨k-1,by omega⟩;rw[st d ro q oM];exact E d ro q oM
  | _=>
   refine⟨K+1,_,t',V',fun d ro k hk=>?_,u⟩;obtain⟨q,rfl⟩:∃q,k=q+1:=⟨k-1,by omega⟩;rw[st d ro q oM];rfl
theorem ah {id:Nat} {ops:Array Oper} (m:mh ops.toList=false) (h:bS P G ops n ops.toList t V Q):Ev P G (.region id ops false) n t V Q:=by
 obtain⟨K,e,t',V',h1,u⟩:=h;refine⟨K+1,e,t',V',fun d ro k hk=>?_,u⟩;obtain⟨j,rfl⟩:∃j,k=j+1:=⟨k-1,by omega⟩;show(bif mh ops.toList then .err 96 else Cr d (tw P G (ep P G j) ops n d ops.toList t V))=_;rw[m,h1 d j oM];cases e<;>rfl
theorem xm {id:Nat} {ops:Array Oper} (hf:ux P ops=true) (h:cm P G ops n (jQ P ops) t V Q):Ev P G (.region id ops true) n t V Q:=by
 obtain⟨K,e,t',V',h1,m⟩:=h;refine⟨K+1,e,t',V',fun d ro k hk=>?_,m⟩;obtain⟨j,rfl⟩:∃j,k=j+1:=⟨k-1,by omega⟩;show vB P G (ep P G j) ops n d t V=_;unfold vB
 simp_all
theorem af {ops:Array Oper} (h:Q .normal t V):bS P G ops n [] t V Q:=⟨0,.normal,t,V,fun _ _ _=>Z,h⟩
theorem Y {ops:Array Oper} {o:Oper} {l:List Oper} {v:U} {t':PT U} {V':aE} (hw:bM ops t o=some true) (hv:ey P G (bB G t) V o.op= .val v V') (hp:dJ t n o.dst v=some t') (h:bS P G ops n l t' V' Q):bS P G ops n (o::l) t V Q:=by
 obtain⟨K,e,j,m,h1,u⟩:=h;refine⟨K,e,j,m,fun d k hk=>?_,u⟩;show iB P G (ep P G k) true ops n o t V (tw P G (ep P G k) ops n d l)=_
 grind [iB,lj]
theorem kr {ops:Array Oper} {o:Oper} {l:List Oper} {t':PT U} {V':aE} (hw:bM ops t o=some true) (hv:ey P G (bB G t) V o.op= .skip V') (hp:dJ t n o.dst unit=some t') (h:bS P G ops n l t' V' Q):bS P G ops n (o::l) t V Q:=by
 obtain⟨K,e,j,m,h1,u⟩:=h;refine⟨K,e,j,m,fun d k hk=>?_,u⟩;show iB P G (ep P G k) true ops n o t V (tw P G (ep P G k) ops n d l)=_
 grind [iB,lj]
theorem ae {ops:Array Oper} {o:Oper} {l:List Oper} {t':PT U} (hw:bM ops t o=some false) (hp:dJ t n o.dst unit=some t') (h:bS P G ops n l t' V Q):bS P G ops n (o::l) t V Q:=by
 obtain⟨K,e,j,m,h1,u⟩:=h;refine⟨K,e,j,m,fun d k hk=>?_,u⟩;show iB P G (ep P G k) true ops n o t V (tw P G (ep P G k) ops n d l)=_;unfold iB
 simp_all
theorem EK {ops:Array Oper} {o:Oper} {l:List Oper} {f:Nat} {args:List U} {j:aE} (hw:bM ops t o=some true) (hv:ey P G (bB G t) V o.op= .enter f args j)
  (h:bu P G f args j fun v V'=>∃t',dJ t n o.dst v=some t'/\bS P G ops n l t' V' Q):bS P G ops n (o::l) t V Q:=by
 obtain⟨K,v,V',h1,t',hp,m,e,u,w,h3,h4⟩:=h;refine⟨max K m,e,u,w,fun d k hk=>?_,h4⟩;show iB P G (ep P G k) true ops n o t V (tw P G (ep P G k) ops n d l)=_
 grind [iB,lj]
theorem aX {ops:Array Oper} (h:Q .normal t V):cm P G ops n [] t V Q:=⟨0,.normal,t,V,fun _ _ _=>Z,h⟩
theorem ai {ops:Array Oper} {i:Nat} {o:Oper} {l:List (Nat×List Nat)} {v:U} {t':PT U} {V':aE} (hi:ops[i]?=some o) (hw:bM ops t o=some true) (hv:ey P G (bB G t) V o.op= .val v V') (hp:dJ t n o.dst v=some t') (h:cm P G ops n l t' V' Q):cm P G ops n ((i,[])::l) t V Q:=by
 obtain⟨K,e,j,m,h1,u⟩:=h;refine⟨K,e,j,m,fun d k hk=>?_,u⟩
 show(match ops[i]? with
  | some o=>iB P G (ep P G k) false ops n o t V (fun t' V'=>bif dk P G ops t' V' [] then jR P G (ep P G k) ops n d l t' V' else .err 86)
  | none=>.err 87)=_
 rw[hi];unfold iB;dsimp only;rw[hw];dsimp only;rw[hv];dsimp only[lj];rw[hp];exact h1 d k hk
theorem au {ops:Array Oper} {i:Nat} {o:Oper} {l:List (Nat×List Nat)} {t':PT U} (hi:ops[i]?=some o) (hw:bM ops t o=some false) (hp:dJ t n o.dst unit=some t') (h:cm P G ops n l t' V Q):cm P G ops n ((i,[])::l) t V Q:=by
 obtain⟨K,e,j,m,h1,u⟩:=h;refine⟨K,e,j,m,fun d k hk=>?_,u⟩
 show(match ops[i]? with
  | some o=>iB P G (ep P G k) false ops n o t V (fun t' V'=>bif dk P G ops t' V' [] then jR P G (ep P G k) ops n d l t' V' else .err 86)
  | none=>.err 87)=_
 rw[hi];unfold iB;dsimp only;rw[hw];dsimp only;rw[hp];exact h1 d k hk
theorem Cm {ops:Array Oper} {i:Nat} {o:Oper} {rc:List Nat} {l:List (Nat×List Nat)} {f:Nat} {args:List U} {j:aE} (hi:ops[i]?=some o) (hw:bM ops t o=some true) (hv:ey P G (bB G t) V o.op= .enter f args j)
  (h:bu P G f args j fun v V'=>∃t',dJ t n o.dst v=some t'/\dk P G ops t' V' rc=true/\cm P G ops n l t' V' Q):cm P G ops n ((i,rc)::l) t V Q:=by
 obtain⟨K,v,V',h1,t',hp,hs,m,e,u,w,h3,h4⟩:=h;refine⟨max K m,e,u,w,fun d k hk=>?_,h4⟩
 show(match ops[i]? with
  | some o=>iB P G (ep P G k) false ops n o t V (fun t' V'=>bif dk P G ops t' V' rc then jR P G (ep P G k) ops n d l t' V' else .err 86)
  | none=>.err 87)=_
 grind [iB,lj]
end
theorem Nh {f:Nat} {fn:Func} {c:Code} {args:List U} {V:aE} {R:U->aE->Prop} {t:PT U} (m:G.Kx f args V=none) (u:G.LX f args=none) (j:G.stop f args V=none) (w:G.fk f=false)
  (hf:P.funcs[f]?=some fn) (hb:fn.body=some c) (z:rD fn.ntmps args=some t)
  (h:Ev P G c fn.ntmps t V fun e t' V'=>(e= .normal∨e= .ret)/\∃v,eG P fn t' V'=some v/\R v V'):bu P G f args V R:=by
 obtain⟨K,e,t',V',h1,he,v,h2,A⟩:=h;refine⟨K,v,V',fun k hk=>?_,A⟩;unfold lr;rw[m];dsimp only;rw[u];dsimp only;rw[j];dsimp only;rw[w];simp only[cond_false];unfold mR;rw[hf];dsimp only;rw[hb,z];dsimp only;rw[h1 [] none k hk];rcases he with rfl | rfl<;>
 ·dsimp only;unfold yP;rw[show uE P G (ep P G k) [] .ret V'=some (.ret,V') from Z]
  simp_all
theorem J0 {f:Nat} {args:List U} {V:aE} {R:U->aE->Prop} {v:U} (aa:G.Kx f args V=none) (ab:G.LX f args=some v) (h1:fx args=true) (h2:ph v=true) (h3:uD G.gl V G.laid=true) (h:R v V):bu P G f args V R:=by
 refine⟨0,v,V,fun k _=>?_,h⟩
 grind [lr]
end
def qv (P:Program):List Field->Nat->Option Nat
  | [],off=>some off
  | f::r,off=>if f.offset=off then qv P r (off+P.cellsOf f.type) else none
def dH {H_:Type} (P:Program) (V:aE):Nat->TypeId->DataW H_->List U->Prop
  | 0,_,_,_=>False
  | fuel+1,t,d,vs=>
    match P.underlying t,d with
    | some .bool,.lit (.bool b)=>vs= [.bool b]
    | some (.int k),.lit (.int k' n)=>k'=k/\(Lit.int k n).wf=true/\vs= [.int k n]
    | some .string,.lit (.string s)=>s.length<=maxLen/\vs= [.str<|s.map UInt8.toNat]
    | some (.slice _),.nil=>vs= [.az]
    | some (.slice e),.slice elems spare=>1<=P.cellsOf e->∃(b:Nat) (c:uc) (cells:List U) (e':Nat),vs= [.slice b 0 elems.length c]/\elems.length<=maxLen/\V.m.get b=some (.row cells e' true)/\
        (c= .known (elems.length+spare.length)∨c= .upto (P.cellsOf e))/\cells.length=elems.length*P.cellsOf e/\
        ∀(i:Nat) (x:DataW H_),elems[i]?=some x->dH P V fuel e x ((cells.drop (i*P.cellsOf e)).take<|P.cellsOf e)
    | some (.struct fs),.agg parts=>qv P fs.toList 0=some (P.cellsOf t)->parts.length=fs.size/\vs.length=P.cellsOf t/\
        ∀(i:Nat) (f:Field) (x:DataW H_),fs[i]?=some f->parts[i]?=some x->dH P V fuel f.type x ((vs.drop f.offset).take<|P.cellsOf f.type)
    | some (.array n e),.agg parts=>P.cellsOf t=n*P.cellsOf e->parts.length=n/\vs.length=P.cellsOf t/\
        ∀(i:Nat) (x:DataW H_),parts[i]?=some x->dH P V fuel e x ((vs.drop (i*P.cellsOf e)).take<|P.cellsOf e)
    | _,_=>True
theorem dH.mono {H_:Type} {P:Program} {V V':aE} (he:∀(b:Pos) (o:cD),V.m.get b=some o->V'.m.get b=some o):∀(fuel:Nat) (t:TypeId) (d:DataW H_) (vs:List U),dH P V fuel t d vs->dH P V' fuel t d vs
  | 0,_,_,_,h=>h
  | fuel+1,t,d,vs,h=>by
    unfold dH at h⊢;split at h
    · exact h
    · exact h
    · exact h
    · exact h
    · intro h1
      obtain⟨b,c,cells,e',j,u,z,A,B,C⟩:=h h1;exact⟨b,c,cells,e',j,u,he _ _ z,A,B,fun i x hx=>dH.mono he fuel _ _ _ (C i x hx)⟩
    · intro h1
      obtain⟨j,u,z⟩:=h h1;exact⟨j,u,fun i f x hf hx=>dH.mono he fuel _ _ _ (z i f x hf hx)⟩
    · intro h1
      obtain⟨j,u,z⟩:=h h1;exact⟨j,u,fun i x hx=>dH.mono he fuel _ _ _ (z i x hx)⟩
    · trivial
theorem dw.flatten {J:dh}:∀{vss:List (List U)} {css:List (List Value)},vss.length=css.length->(∀(i:Nat) (vs:List U) (cs:List Value),vss[i]?=some vs->css[i]?=some cs->dw J vs cs)->dw J vss.flatten css.flatten
  | [],[],_,_=>dw.nil
  | [],_::_,h,_=>by simp at h
  | _::_,[],h,_=>by simp at h
  | vs::vss,cs::css,h,j=>by
    rw[List.flatten_cons,List.flatten_cons];exact(j 0 vs cs Z Z).append (dw.flatten (by simpa using h) fun i a b m hb=>j (i+1) a b (by simpa using m) (by simpa using hb))
theorem np {α:Type} {m:Nat}:∀{l:List (List α)} {i:Nat} {x:List α},(∀y∈l,y.length=m)->l[i]?=some x->(l.flatten.drop (i*m)).take m=x
  | [],i,x,_,h=>by simp at h
  | y::l,0,x,hm,h=>by
    simp at h;subst h;have hy:=hm y (by simp);simp[<-hy]
  | y::l,i+1,x,hm,h=>by
    have hy:=hm y (by simp);simp only[List.getElem?_cons_succ] at h;rw[List.flatten_cons,show(i+1)*m=y.length+i*m by rw[hy,Nat.succ_mul,Nat.add_comm],List.drop_append,List.drop_eq_nil_of_le oM,List.nil_append,Nat.add_sub_cancel_left];exact np (fun z j=>hm z (by simp[j])) h
theorem pN {α:Type} {m:Nat}:∀{l:List (List α)},(∀y∈l,y.length=m)->l.flatten.length=l.length*m
  | [],_=>by simp
  | y::l,hm=>by
    rw[List.flatten_cons,lA_,hm y (by simp),pN fun z j=>hm z (by simp[j]),List.length_cons,Nat.succ_mul,Nat.add_comm]
theorem nE {α:Type} {P:Program}:∀{fs:List Field} {off fin:Nat} {cs:List α},qv P fs off=some fin->fin<=cs.length->(fs.map fun f=>(cs.drop f.offset).take (P.cellsOf f.type)).flatten=(cs.drop off).take (fin-off)/\off<=fin
  | [],off,fin,cs,h,_=>by simp only[qv,oJ_] at h;subst h;simp
  | f::fs,off,fin,cs,h,hl=>by
    simp only[qv] at h;split at h
    · rename_i j
      obtain⟨h1,h2⟩:=nE h hl;refine⟨?_,by omega⟩;rw[List.map_cons,List.flatten_cons,h1,j];rw[show fin-off=P.cellsOf f.type+(fin-(off+P.cellsOf f.type)) by omega,List.take_add,List.drop_drop]
    · cases h
theorem vW {α:Type} {P:Program}:∀{fs:List Field} {vss:List (List α)} {off fin:Nat},qv P fs off=some fin->(∀(i:Nat) (f:Field) (vs:List α),fs[i]?=some f->vss[i]?=some vs->vs.length=P.cellsOf f.type)->vss.length=fs.length->
    ∀{i:Nat} {f:Field} {vs:List α},fs[i]?=some f->vss[i]?=some vs->off<=f.offset/\(vss.flatten.drop (f.offset-off)).take (P.cellsOf f.type)=vs
  | [],vss,off,fin,h,hl,j,i,f,vs,hf,hv=>by simp at hf
  | g::fs,[],off,fin,h,hl,j,i,f,vs,hf,hv=>by simp at hv
  | g::fs,w::vss,off,fin,h,hl,j,i,f,vs,hf,hv=>by
    simp only[qv] at h;split at h
    · rename_i ho
      have hw:=hl 0 g w Z Z;cases i with
      | zero=>
        simp_all
      | succ i=>
        simp only[List.getElem?_cons_succ] at hf hv;obtain⟨h1,h2⟩:=vW h (fun i f vs a b=>hl (i+1) f vs (by simpa using a) (by simpa using b)) (by simpa using j) hf hv
        grind [List.drop_append,List.drop_eq_nil_of_le]
    · cases h
def kb (V:aE):Prop:=∀b o,V.m.get b=some o->o.ro=true
structure DO (J:dh) (V:aE) (J':dh) (V':aE):Prop where
  le:J.le J'
  get:∀(b:Pos) (o:cD),V.m.get b=some o->V'.m.get b=some o
theorem DO.refl (J:dh) (V:aE):DO J V J V:=⟨dh.le_refl J,fun _ _ h=>h⟩
theorem DO.trans {J ρ₁ ρ₂:dh} {V j V2:aE} (h:DO J V ρ₁ j) (h':DO ρ₁ j ρ₂ V2):DO J V ρ₂ V2:=⟨dh.le_trans h.le h'.le,fun b o hb=>h'.get b o (h.get b o hb)⟩
theorem Inv.OI {J:dh} {V:aE} {w:World} (hi:Inv J V w) (I:kb V) {l:Loc} {o:cD} {x:Obj} (hx:w.heap[l.dF]?=some x) (K:gP J l o x) (aa:o.ro=true):
    Inv (J.with V.next l) (V.alloc o) w/\kb (V.alloc o)/\DO J V (J.with V.next l) (V.alloc o):=by
  have hle:=hi.wE l;have F:l.dF<w.heap.size:=(aS_.1 hx).1;have A:∀b l',b≠V.next->(J.with V.next l) b=some l'->J b=some l':=fun b l' hb h=>by rwa[dh.dY J l hb] at h
  have z:∀b,b≠V.next->(V.alloc o).m.get b=V.m.get b:=fun b hb=>PT.dD _ _ _ _ hb
  have B:(V.alloc o).m.get V.next=some o:=PT.dG _ _ _
  have u:kb (V.alloc o):=fun b q hb=>by
    by_cases e:b=V.next
    · simp_all
    · rw[z b e] at hb;exact I b q hb
  refine⟨⟨⟨fun b hb=>?_,fun b l' hb=>?_,fun b o' l' hb C=>?_,fun b b' o₁ o₂ l₁ l₂ h1 E _ _ _ _=>⟨u b o₁ h1,u b' o₂ E⟩⟩,hi.rP.size,hi.rP.same,fun r _ ⟨b,o,l,h1,E,_,_⟩=>by rw[u b o h1] at E;cases E⟩,u,hle,fun b q hb=>?_⟩
  · have ab:V.next.num+1<=b.num:=by simpa [aE.alloc,Pos.iT] using hb
    have j:b≠V.next:=fun e=>by subst e;omega
    rw[dh.dY J l j,z b j];exact hi.fresh b oM
  · by_cases j:b=V.next
    · subst j;rw[dh.cG] at hb;cases hb;exact F
    · exact hi.dF b l'<|A b l' j hb
  · by_cases j:b=V.next
    · subst j
      rw[dh.cG] at C;rw[B] at hb;cases hb;cases C;exact⟨x,hx,K.mono hle⟩
    · rw[z b j] at hb
      obtain⟨y,L,G⟩:=hi.obj b o' l' hb (A b l' j C);exact⟨y,L,G.mono hle⟩
  · have j:b≠V.next:=fun e=>by subst e;rw[(hi.fresh _<|nR_ _).2] at hb;cases hb
    simp_all
section
variable {H_:Type} {enc:TypeId×Value->H_} {P:Program} {w:World}
def Jd (enc:TypeId×Value->H_) (P:Program) (w:World) (fuel:Nat) (t:TypeId) (cs:List Value) (d:DataW H_):Prop:=
  ∀(J:dh) (V:aE),Inv J V w->kb V->∃(J':dh) (V':aE) (vs:List U),Inv J' V' w/\kb V'/\DO J V J' V'/\dH P V' fuel t d vs/\dw J' vs cs
theorem QB {J:dh}:∀(cs:List Value),dw J (cs.map fun _=>U.any) cs
  | []=>dw.nil
  | _::cs=>dw.cons (by simp only[VR]) (QB cs)
theorem qO {fuel:Nat} (ih:∀t cs d p,DataW.trod enc P w 0 (fun _=>true) true fuel t cs=some (d,p)->Jd enc P w fuel t cs d):
    ∀(l:List (TypeId×List Value)) (xs:List (DataW H_×List MemPlace)),(l.mapM fun q=>DataW.trod enc P w 0 (fun _=>true) true fuel q.1 q.2)=some xs->∀(J:dh) (V:aE),Inv J V w->kb V->
      ∃(J':dh) (V':aE) (vss:List (List U)),Inv J' V' w/\kb V'/\DO J V J' V'/\vss.length=l.length/\xs.length=l.length/\∀(i:Nat) (q:TypeId×List Value) (x:DataW H_×List MemPlace) (vs:List U),l[i]?=some q->xs[i]?=some x->vss[i]?=some vs->dH P V' fuel q.1 x.1 vs/\dw J' vs q.2
  | [],xs,h,J,V,hi,j=>by
    simp at h;subst h;exact⟨J,V,[],hi,j,DO.refl _ _,Z,Z,fun i q x vs hq=>by simp at hq⟩
  | q::l,xs,h,J,V,hi,j=>by
    simp only[List.mapM_cons,Option.bind_eq_bind,Option.bind_eq_some_iff,Option.pure_def,oJ_] at h;obtain⟨⟨d,p⟩,h1,r,m,rfl⟩:=h;obtain⟨ρ₁,u,vs,z,A,l1,B,C⟩:=ih _ _ _ _ h1 J V hi j;obtain⟨ρ₂,E,vss,F,G,l2,I,K,hh⟩:=qO ih l r m ρ₁ u z A;refine⟨ρ₂,E,vs::vss,F,G,l1.trans l2,by simp[I],by simp[K],fun i q' x vs' hq hx hv=>?_⟩;cases i with
    | zero=>
      simp at hq hx hv;subst hq;subst hx;subst hv;exact⟨dH.mono l2.get _ _ _ _ B,dw.mono l2.le _ _ C⟩
    | succ i=>grind
theorem mn {α β:Type} {f:α->Option β}:∀{l:List α} {ys:List β},l.mapM f=some ys->ys.length=l.length/\∀(i:Nat) (y:β),ys[i]?=some y->∃x,l[i]?=some x/\f x=some y
  | [],ys,h=>by simp_all
  | x::l,ys,h=>by
    simp only[List.mapM_cons,Option.bind_eq_bind,Option.bind_eq_some_iff,Option.pure_def,oJ_] at h;obtain⟨y,h1,r,j,rfl⟩:=h;obtain⟨k1,k2⟩:=mn j
    grind
theorem uG {α β γ:Type} {f:α->Option β} {g:β->Option γ}:∀{l:List α} {xs:List γ},(l.mapM fun a=>(f a).bind g)=some xs->∃ys,l.mapM f=some ys/\ys.mapM g=some xs
  | [],xs,h=>by simp_all
  | a::l,xs,h=>by
    simp only[List.mapM_cons,Option.bind_eq_bind,Option.bind_eq_some_iff,Option.pure_def,oJ_] at h;obtain⟨x,⟨b,h1,h2⟩,r,j,rfl⟩:=h;obtain⟨ys,k1,k2⟩:=uG j
    simp_all
theorem mapM_map {α β γ:Type} {f:α->β} {g:β->Option γ}:∀(l:List α),(l.map f).mapM g=l.mapM fun a=>g (f a)
  | []=>rfl
  | a::l=>by simp only[List.map_cons,List.mapM_cons,mapM_map l]
theorem chunks_flatten {α:Type} {m:Nat} (L:List α):∀(n:Nat),((List.range n).map fun k=>(L.drop (k*m)).take m).flatten=L.take (n*m)
  | 0=>by simp
  | n+1=>by
    rw[List.range_succ,List.map_append,List.flatten_append,chunks_flatten L n];simp only[List.map_cons,List.map_nil,List.flatten_cons,List.flatten_nil,List.append_nil];rw[Nat.succ_mul,List.take_add]
theorem wU {a:Addr} {n:Nat} {cs:List Value} (h:w.cells? 0 a n=some cs) (hn:1<=n):∃(c:Array Value) (e:TypeId) (fr:Nat×Nat),w.heap[a.block]?=some (Obj.cells c e fr)/\a.spot=none/\a.off+n<=c.size/\cs=(c.toList.drop a.off).take n:=by
  unfold World.cells? at h;rw[if_pos<|Nat.zero_le _] at h;obtain⟨z,A⟩:=mn h;have z:cs.length=n:=by simpa using z
  have h0:∃(c:Array Value) (e:TypeId) (fr:Nat×Nat),w.heap[a.block]?=some (Obj.cells c e fr)/\a.spot=none:=by
    have j:0<cs.length:=by omega
    obtain⟨x,hx,hc⟩:=A 0 cs[0] (gC j)
    have:x=0:=by
      grind
    subst this;have B:a.add 0=a:=by simp[Addr.add]
    rw[B] at hc;unfold World.cell? at hc;split at hc
    · simp_all
    · cases hc
  obtain⟨c,e,fr,C,E⟩:=h0
  have m:∀i y,cs[i]?=some y->c[a.off+i]?=some y:=fun i y hy=>by
    grind [Addr.add_eq,cell?_of_heap]
  have u:a.off+n<=c.size:=by
    have j:n-1<cs.length:=by omega
    have:=m (n-1) cs[n-1] (gC j)
    grind
  refine⟨c,e,fr,C,E,u,?_⟩;apply List.ext_getElem?
  grind
theorem Dz {P:Program}:∀{fs:List Field} {off fin:Nat},qv P fs off=some fin->∀f∈fs,f.offset+P.cellsOf f.type<=fin
  | [],off,fin,h,f,hf=>by cases hf
  | g::fs,off,fin,h,f,hf=>by
    simp only[qv] at h;split at h
    · rename_i ho
      rcases mQ_.1 hf with rfl | hf
      · have:=(nE (P:=P) (cs:=List.replicate fin ()) h (by simp)).2
        omega
      · exact Dz h f hf
    · cases h
theorem KC (hw:∃(r:Nat) (c:Array Value) (e:TypeId) (fr:Nat×Nat),w.heap[r]?=some (Obj.cells c e fr)) {fuel:Nat} (ih:∀t cs d p,DataW.trod enc P w 0 (fun _=>true) true fuel t cs=some (d,p)->Jd enc P w fuel t cs d) {t e:TypeId} {a:Addr} {len cap:Nat} {d:DataW H_} {p:List MemPlace} (hu:P.underlying t=some (.slice e))
    (h:(if 0<=a.block/\len<=cap/\cap<=maxLen then
        ((List.range len).mapM fun i=>(w.cells? 0 (a.add (i*P.cellsOf e))<|P.cellsOf e).bind (DataW.trod enc P w 0 (fun _=>true) true fuel e)).bind fun elems=>
          (if(fun _=>true) a.block=true then(List.range (cap-len)).mapM fun j=>(w.cells? 0 (a.add ((len+j)*P.cellsOf e))<|P.cellsOf e).bind (DataW.trod enc P w 0 (fun _=>true) true fuel e) else some []).map fun rest=>
            (DataW.slice (elems.map (·.1))<|rest.map (·.1),MemPlace.row a ((elems.length+rest.length)*P.cellsOf e)++(elems++rest).flatMap (·.2))
      else none)=some (d,p)) {J:dh} {V:aE} (hi:Inv J V w) (hr:kb V):
    ∃(J':dh) (V':aE) (vs:List U),Inv J' V' w/\kb V'/\DO J V J' V'/\dH P V' (fuel+1) t d vs/\dw J' vs [Value.slice (some a) len cap]:=by
  split at h
  · rename_i hc
    obtain⟨_,a3,a4⟩:=hc;obtain⟨elems,hE,h⟩:=Option.bind_eq_some_iff.1 h;obtain⟨rest,hR,h⟩:=oM_.1 h;rw[if_pos Z] at hR;have hd:d= .slice (elems.map (·.1)) (rest.map (·.1)):=by have:=congrArg Prod.fst h;simpa using this.symm
    subst hd;have u:elems.length=len:=by have:=(mn hE).1;simpa using this
    have ac:rest.length=cap-len:=by have:=(mn hR).1;simpa using this
    by_cases K:1<=P.cellsOf e
    · obtain⟨css,am,hex⟩:=uG hE
      obtain⟨kcs,I⟩:=mn am;have kcs:css.length=len:=by simpa using kcs
      have R:∀k,(a.add k).block=a.block/\(a.add k).off=a.off+k:=fun k=>by
        unfold Addr.add;split
        · rename_i h0;subst h0;exact⟨Z,Z⟩
        · exact⟨Z,Z⟩
      have C:a.add 0=a:=by simp[Addr.add]
      by_cases h0:len=0/\cap=0
      · obtain⟨rfl,rfl⟩:=h0
        obtain⟨r,c,e',fr,hh⟩:=hw;have E:gP J ⟨r,0,c.size⟩ (.row [] e' true) (.cells c e' fr):=⟨c,fr,Z,by simp,by simp,fun i v hv=>by simp at hv,fun h=>by cases h⟩;obtain⟨i1,r1,l1⟩:=hi.OI hr hh E Z;refine⟨_,_,[.slice V.next 0 0 (.upto<|P.cellsOf e)],i1,r1,l1,?_,dw.cons ?_ dw.nil⟩
        · unfold dH
          rw[hu];dsimp only;intro _;have ap:elems= []:=eN_ u;subst ap;exact⟨V.next,_,[],e',Z,by simp,PT.dG _ _ _,.inr Z,by simp,fun i x hx=>by simp at hx⟩
        · simp only[VR]
          refine⟨_,dh.cG _ _ _,.inr ?_⟩;simp
      · have S:∃(c:Array Value) (e':TypeId) (fr:Nat×Nat),w.heap[a.block]?=some (Obj.cells c e' fr)/\a.spot=none/\a.off<=c.size:=by
          have go:∀cs:List Value,w.cells? 0 a (P.cellsOf e)=some cs->∃(c:Array Value) (e':TypeId) (fr:Nat×Nat),w.heap[a.block]?=some (Obj.cells c e' fr)/\a.spot=none/\a.off<=c.size:=fun cs hk=>by
            obtain⟨c,e',fr,h1,h2,h3,_⟩:=wU hk K;exact⟨c,e',fr,h1,h2,by omega⟩
          by_cases hl:len=0
          · subst hl
            obtain⟨dss,ar,_⟩:=uG hR;obtain⟨k1,k2⟩:=mn ar;have k1:dss.length=cap-0:=by simpa using k1
            have m:0<dss.length:=by omega
            obtain⟨x,F,hx⟩:=k2 0 dss[0] (gC m);have:x=0:=by rw[List.getElem?_range oM] at F;exact(Option.some.inj F).symm
            subst this;rw[nA_,Nat.zero_mul,C] at hx;exact go _ hx
          · have m:0<css.length:=by omega
            obtain⟨x,F,hx⟩:=I 0 css[0] (gC m);have:x=0:=by rw[List.getElem?_range oM] at F;exact(Option.some.inj F).symm
            subst this;rw[Nat.zero_mul,C] at hx;exact go _ hx
        obtain⟨c,e',fr,hh,G,an⟩:=S
        have L:∀(i:Nat) (y:List Value),css[i]?=some y->a.off+(i+1)*P.cellsOf e<=c.size/\y=((c.toList.drop a.off).drop (i*P.cellsOf e)).take (P.cellsOf e):=fun i y z=>by
          obtain⟨x,hx,a0⟩:=I i y z;have B:i<len:=by rw[<-kcs];exact(gA.1 z).1
          have:x=i:=by rw[List.getElem?_range B] at hx;exact(Option.some.inj hx).symm
          subst this;obtain⟨c2,e2,a5,h1,h2,h3,h4⟩:=wU a0 K;obtain⟨q1,q3⟩:=R (x*P.cellsOf e);rw[q1,hh] at h1;cases h1;rw[q3] at h3 h4;exact⟨by rw[Nat.succ_mul];omega,by rw[h4,List.drop_drop]⟩
        have a1:a.off+len*P.cellsOf e<=c.size:=by
          by_cases hl:len=0
          · subst hl;omega
          · have m:len-1<css.length:=by omega
            have:=(L (len-1) css[len-1]<|gC m).1;rwa[show len-1+1=len by omega] at this
        have T:∀(i:Nat) (y:List Value),css[i]?=some y->y.length=P.cellsOf e:=fun i y z=>by
          obtain⟨k1,k2⟩:=L i y z;rw[k2,lT_,lD_,lD_,Array.length_toList];rw[Nat.succ_mul] at k1;omega
        have M:css=(List.range len).map fun k=>((c.toList.drop a.off).drop (k*P.cellsOf e)).take (P.cellsOf e):=by
          apply List.ext_getElem?;intro i;rw[gM_]
          by_cases B:i<len
          · rw[List.getElem?_range B]
            have m:i<css.length:=by omega
            rw[gC m];exact congrArg some (L i css[i]<|gC m).2
          · rw[gN_ oM,gN_ (by simp;omega)];rfl
        obtain⟨ρ₁,V1,vss,i1,r1,l1,n1,n2,Q⟩:=qO ih (css.map fun cs=>(e,cs)) elems (by rw[mapM_map];exact hex) J V hi hr;have n1:vss.length=css.length:=by simpa using n1
        have hV:dw ρ₁ vss.flatten css.flatten:=dw.flatten n1 fun i vs cs hv W=>by
          have m:i<elems.length:=by rw[u,<-kcs];exact(gA.1 W).1
          exact(Q i (e,cs) elems[i] vs (by rw[gM_,W];rfl) (gC m) hv).2
        have X:∀vs∈vss,vs.length=P.cellsOf e:=fun vs hv=>by
          obtain⟨i,B,rfl⟩:=List.getElem_of_mem hv;have m:i<css.length:=by omega
          have A:i<elems.length:=by omega
          have:=(Q i (e,css[i]) elems[i] vss[i] (by rw[gM_,gC m];rfl) (gC A)<|gC B).2.length;rw[<-this];exact T i _<|gC m
        have aa:vss.flatten.length=len*P.cellsOf e:=by rw[pN X,n1,kcs]
        rw[M,chunks_flatten] at hV
        have E:gP ρ₁ ⟨a.block,a.off,c.size-a.off⟩ (.row vss.flatten e' true) (.cells c e' fr):=by
          refine⟨c,fr,Z,by show c.size=a.off+(c.size-a.off);omega,by rw[aa];show _<=c.size-a.off;omega,fun i v hv=>?_,fun h=>by cases h⟩;obtain⟨y,z,a2⟩:=hV.get hv;rw[List.getElem?_take] at z;split at z
          · rw[List.getElem?_drop,aT_] at z
            exact⟨y,z,a2⟩
          · cases z
        obtain⟨i2,r2,l2⟩:=i1.OI r1 hh E Z;refine⟨_,_,[.slice V1.next 0 len (.known cap)],i2,r2,l1.trans l2,?_,dw.cons ?_ dw.nil⟩
        · unfold dH
          rw[hu];dsimp only;intro _;refine⟨V1.next,_,vss.flatten,e',by rw[lM_,u],by rw[lM_,u];omega,PT.dG _ _ _,.inl (by rw[lM_,lM_,u,ac];congr 1;omega),by rw[aa,lM_,u],fun i x hx=>?_⟩;rw[gM_] at hx;cases z:elems[i]? with
          | none=>rw[z] at hx;cases hx
          | some y=>
            rw[z] at hx;cases hx;have B:i<len:=by rw[<-u];exact(gA.1 z).1
            have m:i<css.length:=by omega
            have A:i<vss.length:=by omega
            rw[np X<|gC A];exact dH.mono l2.get _ _ _ _ (Q i (e,css[i]) y vss[i] (by rw[gM_,gC m];rfl) z<|gC A).1
        · simp only[VR]
          refine⟨_,dh.cG _ _ _,?_⟩;obtain⟨ab,ao,as⟩:=a;dsimp only at G⊢;subst G;rfl
    · refine⟨J,V,[.any],hi,hr,DO.refl _ _,?_,dw.cons (by simp only[VR]) dw.nil⟩
      unfold dH;rw[hu];exact fun h'=>absurd h' K
  · cases h
theorem lay (hw:∃(r:Nat) (c:Array Value) (e:TypeId) (fr:Nat×Nat),w.heap[r]?=some (Obj.cells c e fr)):∀(fuel:Nat) (t:TypeId) (cs:List Value) (d:DataW H_) (p:List MemPlace),DataW.trod enc P w 0 (fun _=>true) true fuel t cs=some (d,p)->Jd enc P w fuel t cs d
  | 0,t,cs,d,p,h=>by simp[DataW.trod] at h
  | fuel+1,t,cs,d,p,h=>by
    intro J V hi L;have ih:=lay hw fuel
    have other:(∀vs:List U,dH P V (fuel+1) t d vs)->∃(J':dh) (V':aE) (vs:List U),Inv J' V' w/\kb V'/\DO J V J' V'/\dH P V' (fuel+1) t d vs/\dw J' vs cs:=fun F=>
      ⟨J,V,_,hi,L,DO.refl _ _,F _,QB cs⟩
    have one:∀{v:U} {x:Value},cs= [x]->(∀J:dh,VR J v x)->dH P V (fuel+1) t d [v]->∃(J':dh) (V':aE) (vs:List U),Inv J' V' w/\kb V'/\DO J V J' V'/\dH P V' (fuel+1) t d vs/\dw J' vs cs:=fun {v x} hc hv F=>by
      subst hc;exact⟨J,V,[v],hi,L,DO.refl _ _,F,dw.cons (hv J) dw.nil⟩
    cases hu:P.underlying t with
    | none=>exact other fun vs=>by unfold dH;rw[hu];trivial
    | some u=>
      unfold DataW.trod at h;rw[hu] at h;cases u with
      | bool=>
        split at h<;>first | (rename_i he;cases he;done) | skip
        all_goals first
          | (rename_i b he
             cases h;exact one (v:=.bool b) Z (fun J=>by simp only[VR]) (by unfold dH;rw[hu]))
          | cases h
      | int k=>
        split at h<;>first | (rename_i he;cases he;done) | skip
        all_goals first
          | (rename_i S M n he
             cases he;split at h
             · rename_i hk
               obtain⟨T,W⟩:=hk;subst T;cases h;exact one (v:=.int M n) Z (fun J=>by simp only[VR]) (by unfold dH;rw[hu];exact⟨Z,W,Z⟩)
             · cases h)
          | cases h
      | string=>
        split at h<;>first | (rename_i he;cases he;done) | skip
        all_goals first
          | (rename_i s he
             split at h
             · rename_i hk
               cases h;exact one (v:=.str<|s.data.toList.map UInt8.toNat) Z (fun J=>by simp only[VR];exact⟨s,Z,Z⟩) (by unfold dH;rw[hu];exact⟨by simpa using hk,Z⟩)
             · cases h)
          | cases h
      | struct fs=>
        dsimp only at h;split at h
        · rename_i hlen
          obtain⟨xs,G,hx⟩:=oM_.1 h;have F:d= .agg (xs.map (·.1)):=by have:=congrArg Prod.fst hx;simpa using this.symm
          subst F
          by_cases C:qv P fs.toList 0=some (P.cellsOf t)
          · obtain⟨ρ₁,Q,vss,X,r1,l1,B,E,hh⟩:=qO ih (fs.toList.map fun f=>(f.type,(cs.drop f.offset).take<|P.cellsOf f.type)) xs (by rw[mapM_map];exact G) J V hi L
            have hflat:=(nE (cs:=cs) C oM).1;have hle:=Dz C;have B:vss.length=fs.toList.length:=by simpa using B
            have E:xs.length=fs.toList.length:=by simpa using E
            have A:∀(i:Nat) (f:Field) (vs:List U),fs.toList[i]?=some f->vss[i]?=some vs->∃x,xs[i]?=some x/\dH P Q fuel f.type x.1 vs/\dw ρ₁ vs ((cs.drop f.offset).take<|P.cellsOf f.type):=fun i f vs hf hv=>by
              have j:i<xs.length:=by rw[E];exact(gA.1 hf).1
              obtain⟨S,M⟩:=hh i (f.type,(cs.drop f.offset).take<|P.cellsOf f.type) xs[i] vs (by rw[gM_,hf];rfl) (gC j) hv;exact⟨xs[i],gC j,S,M⟩
            have I:∀(i:Nat) (f:Field) (vs:List U),fs.toList[i]?=some f->vss[i]?=some vs->vs.length=P.cellsOf f.type:=fun i f vs hf hv=>by
              obtain⟨x,_,_,k⟩:=A i f vs hf hv;have h1:=k.length;have h2:=hle f (gB_ hf);rw[lT_,lD_] at h1;omega
            have R:dw ρ₁ vss.flatten cs:=by
              have:=dw.flatten (J:=ρ₁) (vss:=vss) (css:=fs.toList.map fun f=>(cs.drop f.offset).take (P.cellsOf f.type)) (by simpa using B) (fun i vs c hv hc=>by
                rw[gM_] at hc;cases hf:fs.toList[i]? with
                | none=>rw[hf] at hc;cases hc
                | some f=>
                  rw[hf] at hc;cases hc;obtain⟨x,_,_,k⟩:=A i f vs hf hv;exact k)
              rw[hflat,List.drop_zero,Nat.sub_zero,<-hlen,List.take_length] at this;exact this
            refine⟨ρ₁,Q,vss.flatten,X,r1,l1,?_,R⟩;unfold dH;rw[hu];dsimp only;intro _;refine⟨by simpa using E,by rw[<-hlen];exact R.length.symm,fun i f x hf hx=>?_⟩;have K:fs.toList[i]?=some f:=by rw[aT_];exact hf
            have j:i<vss.length:=by rw[B];exact(gA.1 K).1
            obtain⟨_,hp⟩:=vW C I B K (gC j);obtain⟨y,hy,k,_⟩:=A i f vss[i] K (gC j);rw[gM_,hy] at hx;cases hx;rw[Nat.sub_zero] at hp;rw[hp];exact k
          · exact other fun vs=>by unfold dH;rw[hu];exact fun h'=>absurd h' C
        · cases h
      | array m e=>
        dsimp only at h;split at h
        · rename_i hlen
          obtain⟨xs,G,hx⟩:=oM_.1 h;have F:d= .agg (xs.map (·.1)):=by have:=congrArg Prod.fst hx;simpa using this.symm
          subst F
          by_cases C:P.cellsOf t=m*P.cellsOf e
          · obtain⟨ρ₁,Q,vss,X,r1,l1,B,E,hh⟩:=qO ih ((List.range m).map fun i=>(e,(cs.drop (i*P.cellsOf e)).take<|P.cellsOf e)) xs (by rw[mapM_map];exact G) J V hi L
            have B:vss.length=m:=by simpa using B
            have E:xs.length=m:=by simpa using E
            have A:∀(i:Nat) (vs:List U),vss[i]?=some vs->∃x,xs[i]?=some x/\dH P Q fuel e x.1 vs/\dw ρ₁ vs ((cs.drop (i*P.cellsOf e)).take<|P.cellsOf e):=fun i vs hv=>by
              have z:i<m:=by rw[<-B];exact(gA.1 hv).1
              have j:i<xs.length:=by omega
              obtain⟨S,M⟩:=hh i (e,(cs.drop (i*P.cellsOf e)).take<|P.cellsOf e) xs[i] vs (by rw[gM_,List.getElem?_range z];rfl) (gC j) hv;exact⟨xs[i],gC j,S,M⟩
            have I:∀vs∈vss,vs.length=P.cellsOf e:=fun vs hv=>by
              obtain⟨i,z,rfl⟩:=List.getElem_of_mem hv;obtain⟨x,_,_,k⟩:=A i _ (gC z);have h1:=k.length;rw[lT_,lD_,hlen,C] at h1;have:(i+1)*P.cellsOf e<=m*P.cellsOf e:=nM_ _ oM;rw[Nat.succ_mul] at this;omega
            have R:dw ρ₁ vss.flatten cs:=by
              have:=dw.flatten (J:=ρ₁) (vss:=vss) (css:=(List.range m).map fun i=>(cs.drop (i*P.cellsOf e)).take (P.cellsOf e)) (by simpa using B) (fun i vs c hv hc=>by
                obtain⟨x,_,_,k⟩:=A i vs hv;have z:i<m:=by rw[<-B];exact(gA.1 hv).1
                rw[gM_,List.getElem?_range z] at hc;cases hc;exact k)
              rw[chunks_flatten,<-C,<-hlen,List.take_length] at this;exact this
            refine⟨ρ₁,Q,vss.flatten,X,r1,l1,?_,R⟩;unfold dH;rw[hu];dsimp only;intro _;refine⟨by simpa using E,by rw[<-hlen];exact R.length.symm,fun i x hx=>?_⟩
            have z:i<vss.length:=by
              have:=(gA.1 hx).1;rw[lM_] at this;omega
            rw[np I<|gC z];obtain⟨y,hy,k,_⟩:=A i vss[i] (gC z);rw[gM_,hy] at hx;cases hx;exact k
          · exact other fun vs=>by unfold dH;rw[hu];exact fun h'=>absurd h' C
        · cases h
      | slice e=>
        split at h<;>first | (rename_i he;cases he;done) | skip
        all_goals first
          | (rename_i he
             cases h;exact one (v:=.az) Z (fun J=>by simp only[VR]) (by unfold dH;rw[hu]))
          | (rename_i e' a len cap he
             cases he;exact KC hw ih hu h hi L)
          | cases h
      | _=>exact other fun vs=>by unfold dH;rw[hu];trivial
end
section
variable {P:Program} {G:Cx} {ev:Operand->Option U} {V:aE}
def Ext (V V':aE):Prop:=V.next<=V'.next/\∀(b:Nat) (o:cD),b<V.next->V.m.get b=some o->V'.m.get b=some o
theorem Ext.refl (V:aE):Ext V V:=⟨nR_ _,fun _ _ _ h=>h⟩
theorem Ext.trans {V j V2:aE} (h:Ext V j) (h':Ext j V2):Ext V V2:=⟨Nat.le_trans h.1 h'.1,fun b o hb m=>h'.2 b o (Nat.lt_of_lt_of_le hb h.1) (h.2 b o hb m)⟩
theorem yR (V:aE) (o:cD):(V.alloc o).m.get V.next=some o:=PT.dG _ _ _
theorem nq (V:aE) (o:cD) {b:Nat} (h:b<V.next):(V.alloc o).m.get b=V.m.get b:=PT.dD _ _ _ _ (Nat.ne_of_lt h)
theorem Ay (V:aE) (b:Nat) (o:cD):(V.setObj b o).m.get b=some o:=PT.dG _ _ _
theorem nr (V:aE) {b b':Nat} (o:cD) (h:b'≠b):(V.setObj b o).m.get b'=V.m.get b':=PT.dD _ _ _ _ h
theorem Ext.alloc (V:aE) (o:cD):Ext V (V.alloc o):=⟨Nat.le_succ _,fun b o' hb h=>by rw[nq V o hb];exact h⟩
theorem Ext.set {V j:aE} (h:Ext V j) {b:Nat} (hb:V.next<=b) (o:cD):Ext V (j.setObj b o):=⟨h.1,fun c o' hc m=>by rw[nr j o<|Nat.ne_of_lt<|Nat.lt_of_lt_of_le hc hb];exact h.2 c o' hc m⟩
theorem aq {x:Operand} {v:U} (h:ev x=some v):ey P G ev V (.move x)= .val v V:=by
 show(match ev x with | some v=>HR.val v V | none=>_)=_;rw[h]
theorem ak {x:Operand} {v:U} (h:ev x=some v):ey P G ev V (.assign x)= .val v V:=by
 show(match ev x with | some v=>HR.val v V | none=>_)=_;rw[h]
theorem bU {op:Op} {v:U} (hk:kindOf P op= .pure) (h:dI P ev op=some v):ey P G ev V op= .val v V:=by
 unfold ey;simp_all
theorem BC {op:Op} {v:U} (hk:kindOf P op= .read) (h:gq P ev V op=some v):ey P G ev V op= .val v V:=by
 unfold ey;simp_all
theorem ua {op:Op} {ob:cD} {mk:Mk} (hk:kindOf P op= .alloc) (h:fy P ev op=some (ob,mk)):ey P G ev V op= .val (mk.of V.next) (V.alloc ob):=by
 unfold ey;simp_all
theorem rm {op:Op} {r:HR} (hk:kindOf P op= .kY) (h:ig P G.ov ev V op=r):ey P G ev V op=r:=by
 unfold ey;rw[hk];exact h
theorem aw {t:TypeId} {x:Operand} {b:Pos} {off:Nat} {cells:List U} {e:Nat} {ro:Bool} {v:U} (hx:ev x=some (.ptr b off)) (hb:V.m.get b=some (.row cells e ro)) (j:dZ P t=some none) (hv:nth cells off=some v):ey P G ev V (.load t x)= .val v V:=by
 refine BC Z ?_;simp only[gq,hx,hb,j,hv]
theorem aY {t:TypeId} {x:Operand} {b:Pos} {off n:Nat} {cells:List U} {e:Nat} {ro:Bool} {vs:List U} (hx:ev x=some (.ptr b off)) (hb:V.m.get b=some (.row cells e ro)) (u:dZ P t=some (some n)) (hl:off+n<=cells.length) (hv:(cells.drop off).take n=vs):ey P G ev V (.load t x)= .val (.agg vs) V:=by
 refine BC Z ?_;have j:Nat.ble (off+n) (du cells)=true:=by rw[nE_,bY];exact hl
 simp only[gq,hx,hb,u,j,cond_true,dR,eA,hv]
theorem av {s:TypeId} {x:Operand} {i:Nat} {b:Pos} {off k:Nat} (hx:ev x=some (.ptr b off)) (hk:nM P s i=some k):ey P G ev V (.fieldAddr s x i)= .val (.ptr b (off+k)) V:=by
 refine bU Z ?_;unfold nM at hk;simp only[dI,hx];cases j:structOf P s with
 | none=>simp_all
 | some fs=>
  rw[j] at hk;dsimp only at hk⊢;cases hf:fs[i]? with
  | none=>simp_all
  | some f=>
   rw[hf] at hk;dsimp only at hk⊢;rw[pR] at hk
   grind
theorem Ov {t e:TypeId} {j:TypeInfo} {x i:Operand} {b:Pos} {off len n:Nat} {c:uc} {k:IntKind} (m:P.underlying t=some (.slice e)) (hj:P.info? e=some j) (hx:ev x=some (.slice b off len c)) (hi:ev i=some (.int k (.ofNat n))) (u:n<len):ey P G ev V (.indexAddr t x i)= .val (.ptr b (off+n*j.size)) V:=by
 refine bU Z ?_;have:Nat.ble (Nat.succ n) len=true:=by rw[nE_];exact u
 simp only[dI,m,hx,hi,hj,this,cond_true]
theorem ax {o:BinOp} {t r:TypeId} {x y:Operand} {a b v:U} (hx:ev x=some a) (j:ev y=some b) (h:r8 P (zy x || zy y) o t a b=some v):ey P G ev V (.binOp o t x y r)= .val v V:=by
 refine bU Z ?_;simp only[dI,hx,j,h]
theorem ay {c a b:Operand} {q:Bool} {v:U} (hc:ev c=some (.bool q)) (h:(if q then ev a else ev b)=some v):ey P G ev V (.pick c a b)= .val v V:=by
 refine bU Z ?_;cases q with
 | true=>simp only[dI,hc];exact h
 | false=>simp only[dI,hc];exact h
theorem da {t:TypeId} {x:Operand} {q:Bool} (hx:ev x=some (.bool q)):ey P G ev V (.unOp .not t x)= .val (.bool (!q)) V:=by
 refine bU Z ?_;simp only[dI,hx];cases q<;>rfl
theorem cC {e:TypeId} {x:Operand} {v:U} {cs:List U} (hx:ev x=some v) (hc:cU v=some cs):ey P G ev V (.box e x)= .val (.ptr V.next 0) (V.alloc (.row cs e false)):=by
 exact ua (op:=.box e x) (mk:=.ptr) (ob:=.row cs e false) Z (by simp only[fy,hx,Option.bind_some,hc])
theorem cQ {e:TypeId} {cs:List U} (j:(fl P e).bind cU=some cs) (m:tJ P e=false):ey P G ev V (.alloc e)= .val (.ptr V.next 0) (V.alloc (.row cs e false)):=by
 exact ua (op:=.alloc e) (mk:=.ptr) (ob:=.row cs e false) Z (by simp only[fy,j,m,cond_false])
theorem Ow {t:TypeId} {x y:Operand} {b:Pos} {off:Nat} {v:U} {cs cells:List U} {e:Nat} {j:TypeInfo} (hx:ev x=some (.ptr b off)) (u:ev y=some v) (hc:cU v=some cs) (hb:V.m.get b=some (.row cells e false)) (hj:P.info? t=some j) (hl:cs.length=j.size) (hle:off+j.size<=cells.length) (aa:cP cs=true):
  ey P G ev V (.store t x y)= .skip (V.setObj b (.row (ed cs cells off) e false)):=by
 refine rm Z ?_
 have h1:(Nat.beq (du cs) j.size && Nat.ble (off+j.size) (du cells) && cP cs)=true:=by
  rw[bA_,bA_,Nat.beq_eq,nE_,bY,bY]
  simp_all
 simp only[ig,hx,u,yE,hc,hb,hj,h1,cond_true]
theorem aV {c:Call} {f:Operand} {g:Nat} {fi ca args:List U} (hc:c.callee= .value f) (hf:ev f=some (.func g fi ca)) (j:nL ev c.args.toList=some args) (m:xM P g=true):ey P G ev V (.call c)= .enter g (fi++(args++ca)) V:=by
 refine rm (by simp[kindOf,hc]) ?_;simp only[ig,hc,hf,j,y8,m,cond_true,eb]
end
end Go.Ev
namespace Go.Ev
theorem Hb {α:Type} (n:Nat) (t:kq α) (j:n<16):(yK n).run t ((jU n).run t)=t:=by
 rcases Ia j with rfl | rfl | rfl | rfl | rfl | rfl | rfl | rfl | rfl | rfl | rfl | rfl | rfl | rfl | rfl | rfl<;>rfl
theorem Ln {α:Type} (t:jC α) (k:Nat) (hk:k<256):qh t k (ka t k)=t:=by
 unfold qh ka;rw[Hb (Nat.mod k 16) _<|Nat.mod_lt _ (by decide)];exact Hb (Nat.div k 16) _ (by show k/16<16;omega)
theorem PT.NW {α:Type} {t:PT α} {k:Nat} {o:Option α} (h:t.get k=o) (hk:k<256):t.put o k=t:=by
 subst h;rw[PT.pP _ hk];cases t with
 | mk s m l=>rw[PT.tD _ _ _ _ hk];exact congrArg (fun s=>PT.mk s m l)<|Ln s k hk
def Lp:PT U->List (Nat×U)->PT U
 | t,[]=>t
 | t,(k,v)::l=>Lp (t.put (some v) k) l
def OZ (t:PT U):List (Nat×U)->Prop
 | []=>True
 | (k,v)::l=>t.get k=some v/\OZ t l
theorem OZ.Lp {t:PT U}:∀{l:List (Nat×U)},OZ t l->(l.all fun x=>Nat.blt x.1 256)=true->Lp t l=t
 | [],_,_=>rfl
 | (k,v)::l,h,hl=>by
  rw[List.all_cons,bA_] at hl;have hk:k<256:=by have:=hl.1;exact Nat.le_of_ble_eq_true this
  show Go.Ev.Lp (t.put (some v) k) l=t;rw[PT.NW h.1 hk];exact h.2.Lp hl.2
section
variable [Env] {P:Program} {G:Cx} {ev:Operand->Option U} {V:aE}
theorem aL {id:Nat} {Q:Ex->PT U->aE->Prop} {t:PT U} (h:Q .normal t V):ic id Q (.exit id) t V:=by
 show(if id=id then _ else _)
 simp_all
theorem sV {id j:Nat} {Q:Ex->PT U->aE->Prop} {t:PT U} (hj:Nat.beq j id=false) (h:Q (.exit j) t V):ic id Q (.exit j) t V:=by
 show(if j=id then _ else _);rw[if_neg (fun e=>by simp_all)];exact h
theorem aO {n i:Nat} {b:Code} {Q:Ex->PT U->aE->Prop} {t:PT U} (h:Q (.exit i) t V):dq P G n b Q (.exit i) t V:=h
theorem aA {n:Nat} {b:Code} {Q:Ex->PT U->aE->Prop} {t:PT U} (h:Q .ret t V):dq P G n b Q .ret t V:=h
theorem fS {t e:TypeId} {m:Nat} {x i:Operand} {b:Pos} {off len n:Nat} {c:uc} {k:IntKind} (u:P.underlying t=some (.slice e)) (hj:(P.info? e).map (·.size)=some m) (hx:ev x=some (.slice b off len c)) (hi:ev i=some (.int k (.ofNat n))) (w:n<len):ey P G ev V (.indexAddr t x i)= .val (.ptr b (off+n*m)) V:=by
 cases hq:P.info? e with
 | none=>simp_all
 | some j=>
  rw[hq] at hj;cases hj;exact Ov u hq hx hi w
theorem ub {t:TypeId} {m:Nat} {x y:Operand} {b:Pos} {off:Nat} {v:U} {cs cells:List U} {e:Nat} (hx:ev x=some (.ptr b off)) (hy:ev y=some v) (hc:cU v=some cs) (hb:V.m.get b=some (.row cells e false)) (hj:(P.info? t).map (·.size)=some m) (hl:cs.length=m) (hle:off+m<=cells.length) (aa:cP cs=true):
  ey P G ev V (.store t x y)= .skip (V.setObj b (.row (ed cs cells off) e false)):=by
 cases hq:P.info? t with
 | none=>simp_all
 | some j=>
  grind [Ow]
end
end Go.Ev
namespace Go.Ev
variable [Env]
abbrev KP:=Nat->cD->Prop
def KP.le (K K':KP):Prop:=∀b o,K b o->K' b o
theorem KP.le_refl (K:KP):KP.le K K:=fun _ _ h=>h
theorem KP.le_trans {K K' K'':KP} (h:KP.le K K') (h':KP.le K' K''):KP.le K K'':=fun b o hb=>h' b o (h b o hb)
def KP.add (K:KP) (b:Nat) (o:cD):KP:=fun b' o'=>K b' o'∨(b'=b/\o'=o)
theorem KP.pU (K:KP) (b:Nat) (o:cD):KP.le K (K.add b o):=fun _ _ h=>.inl h
abbrev Own:=List (Nat×cD)
structure D (V:aE) (K:KP) (L:Own):Prop where
 kept:∀b o,K b o->b<V.next/\V.m.get b=some o/\∀e∈L,e.1≠b
 own:∀e∈L,e.1<V.next/\V.m.get e.1=some e.2
 ne:L.Pairwise fun a b=>a.1≠b.1
section
variable {V:aE} {K:KP} {L:Own}
theorem D.eN (h:D V K L) {b:Nat} {o:cD} (hk:K b o):V.m.get b=some o:=(h.kept b o hk).2.1
theorem D.get (h:D V K L) (k:Nat) {b:Nat} {o:cD} (hk:L[k]?=some (b,o)):V.m.get b=some o:=(h.own _<|gB_ hk).2
theorem D.alloc (h:D V K L) (o:cD):D (V.alloc o) K ((V.next,o)::L) where
 kept b o' hb:=by
  obtain⟨h1,j,h3⟩:=h.kept b o' hb;refine⟨Nat.lt_succ_of_lt h1,by rw[nq V o h1];exact j,fun e he=>?_⟩
  grind
 own e he:=by
  rcases mQ_.1 he with rfl | he
  ·exact⟨Nat.lt_succ_self _,yR _ _⟩
  obtain⟨h1,j⟩:=h.own e he;exact⟨Nat.lt_succ_of_lt h1,by rw[nq V o h1];exact j⟩
 ne:=List.pairwise_cons.2 ⟨fun e he=>fun hh=>by have:=(h.own e he).1;omega,h.ne⟩
theorem D.pop {e:Nat×cD} (h:D V K (e::L)):D V K L where
 kept b o hb:=let ⟨h1,j,m⟩:=h.kept b o hb;⟨h1,j,fun e he=>m e (mC_ _ he)⟩
 own e he:=h.own e (mC_ _ he)
 ne:=(List.pairwise_cons.1 h.ne).2
theorem D.bR:∀{M:Own},D V K (M++L)->D V K L
 | [],h=>h
 | _::_,h=>D.bR h.pop
theorem D.perm {L':Own} (h:D V K L) (hp:L.Perm L'):D V K L' where
 kept b o hb:=let ⟨h1,m,u⟩:=h.kept b o hb;⟨h1,m,fun e he=>u e (hp.mem_iff.2 he)⟩
 own e he:=h.own e (hp.mem_iff.2 he)
 ne:=(hp.pairwise_iff (fun {a b} j=>fun e=>j e.symm)).1 h.ne
theorem D.jE {b:Nat} {o:cD} (h:D V K ((b,o)::L)):D V (K.add b o) L where
 kept b' o' hb:=by
  rcases hb with hb | ⟨rfl,rfl⟩
  ·exact h.pop.kept b' o' hb
  exact⟨(h.own _<|mS_ ..).1,(h.own _<|mS_ ..).2,fun e he j=>(List.pairwise_cons.1 h.ne).1 e he j.symm⟩
 own:=h.pop.own
 ne:=h.pop.ne
theorem D.uU {b:Nat} {o:cD} (h:D V K ((b,o)::L)) (o':cD):D (V.setObj b o') K ((b,o')::L) where
 kept b' o'' hb:=by
  obtain⟨h1,j,h3⟩:=h.kept b' o'' hb;refine⟨h1,by grind [nr,mS_],fun e he=>?_⟩;rcases mQ_.1 he with rfl | he
  ·simp_all
  grind
 own e he:=by
  rcases mQ_.1 he with rfl | he
  ·exact⟨(h.own _<|mS_ ..).1,Ay _ _ _⟩
  obtain⟨h1,j⟩:=h.own e (mC_ _ he);exact⟨h1,by rw[nr V o' (fun m=>(List.pairwise_cons.1 h.ne).1 e he m.symm)];exact j⟩
 ne:=List.pairwise_cons.2 ⟨(List.pairwise_cons.1 h.ne).1,(List.pairwise_cons.1 h.ne).2⟩
theorem D.N8 {b:Nat} {o:cD} {x:Nat×cD} (h:D V K (x::(b,o)::L)) (o':cD):D (V.setObj b o') K (x::(b,o')::L):=
 ((h.perm<|List.Perm.swap ..).uU o').perm (List.Perm.swap ..)
theorem GJ {α:Type} (x y z:α) (L:List α):(x::y::z::L).Perm (z::x::y::L):=
 (List.Perm.cons x<|List.Perm.swap z y L).trans (List.Perm.swap z x (y::L))
theorem D.SF {b:Nat} {o:cD} {x y:Nat×cD} (h:D V K (x::y::(b,o)::L)) (o':cD):D (V.setObj b o') K (x::y::(b,o')::L):=
 ((h.perm<|GJ ..).uU o').perm (GJ ..).symm
theorem OK {α:Type} (x y z u:α) (L:List α):(x::y::z::u::L).Perm (u::x::y::z::L):=
 (List.Perm.cons x<|GJ y z u L).trans (List.Perm.swap u x (y::z::L))
theorem D.SG {b:Nat} {o:cD} {x y z:Nat×cD} (h:D V K (x::y::z::(b,o)::L)) (o':cD):D (V.setObj b o') K (x::y::z::(b,o')::L):=
 ((h.perm<|OK ..).uU o').perm (OK ..).symm
theorem D.A0 {b:Nat} {o:cD} (h:D V K ((b,o)::L)) (o':cD):D ((V.drop b).alloc o') K ((V.next,o')::L):=by
 refine D.alloc (V:=V.drop b) ⟨fun b' o'' hb=>?_,fun e he=>?_,h.pop.ne⟩ o'
 ·obtain⟨h1,j,u⟩:=h.kept b' o'' hb;exact⟨h1,by rw[show(V.drop b).m.get b'=V.m.get b' from PT.dD _ _ _ _ (fun e=>u _ (mS_ ..) e.symm)];exact j,fun e he=>u e (mC_ _ he)⟩
 obtain⟨h1,j⟩:=h.own e (mC_ _ he);exact⟨h1,by rw[show(V.drop b).m.get e.1=V.m.get e.1 from PT.dD _ _ _ _ (fun w=>(List.pairwise_cons.1 h.ne).1 e he w.symm)];exact j⟩
theorem D.named (h:D V K L):∃L',D V K L'/\L=L':=⟨L,h,Z⟩
theorem D.ext {V':aE} (h:D V K L) (he:Ext V V'):D V' K L where
 kept b o hb:=let ⟨h1,j,m⟩:=h.kept b o hb;⟨Nat.lt_of_lt_of_le h1 he.1,he.2 b o h1 j,m⟩
 own e hm:=let ⟨h1,j⟩:=h.own e hm;⟨Nat.lt_of_lt_of_le h1 he.1,he.2 _ _ h1 j⟩
 ne:=h.ne
end
def eL (K:KP) (p:U) (vs:List U):Prop:=
 ∃(b off:Nat) (cells:List U) (e:Nat) (ro:Bool),p= .ptr b off/\K b (.row cells e ro)/\off+vs.length<=cells.length/\(cells.drop off).take vs.length=vs
theorem eL.mono {K K':KP} (hk:KP.le K K') {p:U} {vs:List U} (h:eL K p vs):eL K' p vs:=
 let ⟨b,off,cells,e,ro,h1,j,m,h4⟩:=h;⟨b,off,cells,e,ro,h1,hk _ _ j,m,h4⟩
def Ox (m len:Nat) (c:uc):Prop:=c= .upto m∨∃n,c= .known n/\len<=n
def bL {α:Type} (K:KP) (m:Nat) (R:α->List U->Prop) (l:List α) (v:U):Prop:=
 (l= []/\v= .az)∨∃(b off:Nat) (c:uc) (cells:List U) (e:Nat) (ro:Bool),v= .slice b off l.length c/\Ox m l.length c/\K b (.row cells e ro)/\off+l.length*m<=cells.length/\l.length<=9223372036854775807/\
  ∀(i:Nat) (x:α),l[i]?=some x->R x ((cells.drop (off+i*m)).take m)
theorem bL.mono {α:Type} {K K':KP} {m:Nat} {R R':α->List U->Prop} {l:List α} {v:U} (h:bL K m R l v) (hk:KP.le K K') (j:∀x vs,R x vs->R' x vs):bL K' m R' l v:=by
 rcases h with h | ⟨b,off,c,cells,e,ro,h1,u,w,h4,h5⟩
 ·exact .inl h
 exact .inr ⟨b,off,c,cells,e,ro,h1,u,hk _ _ w,h4,h5.1,fun i x hx=>j x _ (h5.2 i x hx)⟩
theorem bL.bO {α:Type} {K:KP} {m:Nat} {R:α->List U->Prop} {l:List α} {v:U} (h:bL K m R l v):l.length<=9223372036854775807:=by
 rcases h with ⟨rfl,_⟩ | ⟨b,off,c,cells,e,ro,h1,h2,h3,h4,h5,_⟩
 ·exact Nat.zero_le _
 exact h5
theorem bL.leaf {α:Type} {K:KP} {m:Nat} {R:α->List U->Prop} {l:List α} {v:U} (h:bL K m R l v):cU v=some [v]/\iH v=true:=by
 rcases h with ⟨_,rfl⟩ | ⟨b,off,c,cells,e,ro,rfl,_⟩<;>exact⟨rfl,rfl⟩
theorem bL.yS {α:Type} {K:KP} {m:Nat} {R:α->List U->Prop} {l:List α} {v:U} (h:bL K m R l v) {P:Program} {t e:TypeId} (hu:P.underlying t=some (.slice e)):Go.Ev.yS P t v=some l.length:=by
 rcases h with ⟨rfl,rfl⟩ | ⟨b,off,c,cells,e,ro,rfl,_⟩
 ·simp only[Go.Ev.yS,hu];rfl
 simp only[Go.Ev.yS,hu]
theorem bL.at {α:Type} {K:KP} {m:Nat} {R:α->List U->Prop} {l:List α} {v:U} (h:bL K m R l v) {i:Nat} {x:α} (hi:l[i]?=some x):
  ∃(b off:Nat) (c:uc) (vs:List U),v= .slice b off l.length c/\i<l.length/\eL K (.ptr b (off+i*m)) vs/\vs.length=m/\R x vs:=by
 have j:i<l.length:=(gA.1 hi).1;rcases h with ⟨rfl,_⟩ | ⟨b,off,c,cells,e,ro,rfl,h2,w,h4,h5⟩
 ·simp_all
 have hle:(i+1)*m<=l.length*m:=nM_ _ j;rw[Nat.succ_mul] at hle;have u:((cells.drop (off+i*m)).take m).length=m:=by grind
 refine⟨b,off,c,_,Z,j,⟨b,off+i*m,cells,e,ro,Z,w,by rw[u];omega,by rw[u]⟩,u,h5.2 i x hi⟩
section
variable {P:Program} {G:Cx} {ev:Operand->Option U} {V:aE} {K:KP} {L:Own}
theorem aZ {α:Type} {m:Nat} {R:α->List U->Prop} {l:List α} {c:Call} {t e:TypeId} {x:Operand} {v:U} (u:bL K m R l v) (hc:c.callee= .builtin .len) (j:c.argTypes[0]?=some t) (w:c.args.toList= [x]) (hu:P.underlying t=some (.slice e)) (hx:ev x=some v):ey P G ev V (.call c)= .val (.int .i64 (.ofNat l.length)) V:=by
 refine bU (by simp[kindOf,hc,isMap,j,hu]) ?_;simp only[dI,hc,j,w,hx,u.yS hu,Option.map_some]
theorem om {c:Call} {t:TypeId} {x:Operand} {s:List Nat} (hc:c.callee= .builtin .len) (j:c.argTypes[0]?=some t) (m:c.args.toList= [x]) (hu:P.underlying t=some .string) (hx:ev x=some (.str s)):ey P G ev V (.call c)= .val (.int .i64 (.ofNat<|du s)) V:=by
 refine bU (by simp[kindOf,hc,isMap,j,hu]) ?_;simp only[dI,hc,j,m,hx,yS,hu,Option.map_some]
theorem aN {t:TypeId} {x:Operand} {p v:U} {vs:List U} (j:D V K L) (hp:eL K p vs) (hx:ev x=some p) (m:dZ P t=some none) (hv:vs[0]?=some v):ey P G ev V (.load t x)= .val v V:=by
 obtain⟨b,off,cells,e,ro,rfl,u,h3,h4⟩:=hp;refine aw hx (j.eN u) m ?_
 grind [fG]
theorem Mr {t:TypeId} {x:Operand} {p:U} {vs:List U} {n:Nat} (j:D V K L) (hp:eL K p vs) (hx:ev x=some p) (m:dZ P t=some (some n)) (hv:n<=vs.length):ey P G ev V (.load t x)= .val (.agg<|vs.take n) V:=by
 obtain⟨b,off,cells,e,ro,rfl,u,h3,h4⟩:=hp;refine aY hx (j.eN u) m oM ?_
 grind
end
section
variable {P:Program} {G:Cx} {n:Nat} {t:PT U} {V:aE} {K:KP} {L:Own} {Q:Ex->PT U->aE->Prop} {ops:Array Oper} {o:Oper} {l:List Oper}
theorem aP {c:Bool} {t':Bool->PT U} (hw:bM ops t o=some true) (hv:ey P G (bB G t) V o.op= .val (.bool c) V) (hp:∀b,dJ t n o.dst (.bool b)=some (t' b))
  (h1:c=true->bS P G ops n l (t' true) V Q) (h0:c=false->bS P G ops n l (t' false) V Q):bS P G ops n (o::l) t V Q:=by
 refine Y hw hv (hp c) ?_;cases c with
 | true=>exact h1 Z
 | false=>exact h0 Z
theorem bG (j:D V K L) {ob:cD} {t':Nat->PT U} (hw:bM ops t o=some true) (hv:ey P G (bB G t) V o.op= .val (.ptr V.next 0) (V.alloc ob)) (hp:∀b,dJ t n o.dst (.ptr b 0)=some (t' b))
  (h:∀(V':aE) (b:Nat),D V' K ((b,ob)::L)->bS P G ops n l (t' b) V' Q):bS P G ops n (o::l) t V Q:=
 Y hw hv (hp _) (h _ _<|j.alloc ob)
theorem fe (j:D V K L) {ob:cD} {k c:Nat} {t':Nat->PT U} (hw:bM ops t o=some true) (hv:ey P G (bB G t) V o.op= .val (.slice V.next 0 k (.known c)) (V.alloc ob)) (hp:∀b,dJ t n o.dst (.slice b 0 k (.known c))=some (t' b))
  (h:∀(V':aE) (b:Nat),D V' K ((b,ob)::L)->bS P G ops n l (t' b) V' Q):bS P G ops n (o::l) t V Q:=
 Y hw hv (hp _) (h _ _<|j.alloc ob)
theorem bZ {b:Nat} {ob ob':cD} {t':PT U} (j:D V K ((b,ob)::L)) (hw:bM ops t o=some true) (hv:ey P G (bB G t) V o.op= .skip (V.setObj b ob')) (hp:dJ t n o.dst unit=some t')
  (h:∀V',D V' K ((b,ob')::L)->bS P G ops n l t' V' Q):bS P G ops n (o::l) t V Q:=kr hw hv hp (h _<|j.uU ob')
theorem gS {b:Nat} {ob ob':cD} {x:Nat×cD} {t':PT U} (j:D V K (x::(b,ob)::L)) (hw:bM ops t o=some true) (hv:ey P G (bB G t) V o.op= .skip (V.setObj b ob')) (hp:dJ t n o.dst unit=some t')
  (h:∀V',D V' K (x::(b,ob')::L)->bS P G ops n l t' V' Q):bS P G ops n (o::l) t V Q:=kr hw hv hp (h _<|j.N8 ob')
theorem sA {b:Nat} {ob ob':cD} {x y:Nat×cD} {t':PT U} (j:D V K (x::y::(b,ob)::L)) (hw:bM ops t o=some true) (hv:ey P G (bB G t) V o.op= .skip (V.setObj b ob')) (hp:dJ t n o.dst unit=some t')
  (h:∀V',D V' K (x::y::(b,ob')::L)->bS P G ops n l t' V' Q):bS P G ops n (o::l) t V Q:=kr hw hv hp (h _<|j.SF ob')
theorem PL {b:Nat} {ob ob':cD} {x y z:Nat×cD} {t':PT U} (j:D V K (x::y::z::(b,ob)::L)) (hw:bM ops t o=some true) (hv:ey P G (bB G t) V o.op= .skip (V.setObj b ob')) (hp:dJ t n o.dst unit=some t')
  (h:∀V',D V' K (x::y::z::(b,ob')::L)->bS P G ops n l t' V' Q):bS P G ops n (o::l) t V Q:=kr hw hv hp (h _<|j.SG ob')
theorem bT {α:Type} {m:Nat} {R:α->List U->Prop} {la:List α} {v:U} {i:Nat} {x:α} {ty e:TypeId} {xo io:Operand} {k:IntKind} {t':U->PT U} (w:bL K m R la v) (hi:la[i]?=some x) (hw:bM ops t o=some true) (z:o.op= .indexAddr ty xo io)
  (A:P.underlying ty=some (.slice e)) (hj:(P.info? e).map (·.size)=some m) (hx:bB G t xo=some v) (j:bB G t io=some (.int k (.ofNat i))) (hp:∀p,dJ t n o.dst p=some (t' p))
  (h:∀p vs,eL K p vs->vs.length=m->R x vs->bS P G ops n l (t' p) V Q):bS P G ops n (o::l) t V Q:=by
 obtain⟨b,off,c,vs,rfl,u,h1,B,C⟩:=w.at hi;refine Y hw ?_ (hp _)<|h _ vs h1 B C;rw[z];exact fS A hj hx j u
theorem dy {p:U} {vs:List U} {s:TypeId} {xo:Operand} {i k:Nat} {t':U->PT U} (j:eL K p vs) (hw:bM ops t o=some true) (m:o.op= .fieldAddr s xo i) (hx:bB G t xo=some p) (hk:nM P s i=some k) (hl:k<=vs.length) (hp:∀p,dJ t n o.dst p=some (t' p))
  (h:∀p',eL K p' (vs.drop k)->bS P G ops n l (t' p') V Q):bS P G ops n (o::l) t V Q:=by
 obtain⟨b,off,cells,e,ro,rfl,u,h3,h4⟩:=j;refine Y hw ?_ (hp _)<|h _ ⟨b,off+k,cells,e,ro,Z,u,by grind,?_⟩
 ·rw[m];exact av hx hk
 grind [List.drop_take,List.drop_drop]
theorem cM {f:Nat} {args:List U} {t':U->PT U} {R:U->aE->Prop} (hw:bM ops t o=some true) (hv:ey P G (bB G t) V o.op= .enter f args V) (hp:∀v,dJ t n o.dst v=some (t' v))
  (hc:bu P G f args V R) (h:∀v V',R v V'->bS P G ops n l (t' v) V' Q):bS P G ops n (o::l) t V Q:=
 EK hw hv (hc.mono fun v V' j=>⟨_,hp v,h v V' j⟩)
theorem aD {x:Operand} {a b:Code} {c:Bool} (hc:bB G t x=some (.bool c)) (h1:c=true->Ev P G a n t V Q) (h0:c=false->Ev P G b n t V Q):Ev P G (.cond x a b) n t V Q:=by
 refine Av hc ?_
 grind
end
theorem aI:cP []=true:=rfl
theorem aj {v:U} {vs:List U} (h:iH v=true) (hs:cP vs=true):cP (v::vs)=true:=by
 grind [cP]
section
variable {P:Program} {G:Cx} {ev:Operand->Option U} {V:aE} {K:KP} {L:Own}
theorem aR {t:TypeId} {m:Nat} {x y:Operand} {b:Pos} {off:Nat} {v:U} {cs cells cells':List U} {e:Nat} (hx:ev x=some (.ptr b off)) (u:ev y=some v) (hc:cU v=some cs) (hb:V.m.get b=some (.row cells e false)) (hj:(P.info? t).map (·.size)=some m) (hl:cs.length=m) (hle:off+m<=cells.length) (j:cP cs=true) (w:ed cs cells off=cells'):
  ey P G ev V (.store t x y)= .skip (V.setObj b (.row cells' e false)):=by
 subst w;exact ub hx u hc hb hj hl hle j
theorem bN {t:TypeId} {x:Operand} {p:U} {vs:List U} {n:Nat} (hs:D V K L) (hp:eL K p vs) (hx:ev x=some p) (ha:dZ P t=some (some n)) (hv:vs.length=n):ey P G ev V (.load t x)= .val (.agg vs) V:=by
 grind [Mr,List.take_length]
def placesOf (P:Program) (t:TypeId):Option (List (Nat×Nat)):=(structOf P t).bind fun fs=>dB (fun f:Field=>(P.info? f.type).map fun j=>(f.offset,j.size)) fs.toList
theorem bF {place:Nat->Option (Nat×Nat)} {cells:List U}:jI place ev [] cells=some cells:=rfl
theorem bj {place:Nat->Option (Nat×Nat)} {i:Nat} {x:Operand} {l:List (Nat×Operand)} {cells:List U} {off size:Nat} {v:U} {vs:List U} {r:Option (List U)} (hp:place i=some (off,size)) (hx:ev x=some v) (hc:cU v=some vs) (hl:(Nat.beq (du vs) size && Nat.ble (off+size) (du cells))=true) (h:jI place ev l (ed vs cells off)=r):jI place ev ((i,x)::l) cells=r:=by
 grind [jI]
theorem cH {t:TypeId} {parts:Array (Nat×Operand)} {places:List (Nat×Nat)} {zero cs:List U} (hp:placesOf P t=some places) (m:(fl P t).bind cU=some zero) (hu:dZ P t=some (some zero.length)) (hf:jI (nth places) ev parts.toList zero=some cs) (j:(structOf P t).isSome=true):ey P G ev V (.build t parts)= .val (.agg cs) V:=by
 refine bU Z ?_;unfold placesOf structOf at hp;unfold structOf at j;rw[oj] at hp j;simp only[dI,m]
 grind
theorem gJ {s d:TypeId} {x:Operand} {j k:IntKind} {n:Int} (hk:kindOf P (.convert s d x)= .pure) (m:P.underlying s=some (.int j)) (u:P.underlying d=some (.int k)) (hx:ev x=some (.int j n)):ey P G ev V (.convert s d x)= .val (.int k<|wr k n) V:=by
 refine bU hk ?_;simp only[dI,m,u,hx]
end
section
variable {P:Program} {G:Cx} {n:Nat} {t:PT U} {V:aE} {K:KP} {L:Own} {Q:Ex->PT U->aE->Prop} {ops:Array Oper} {o:Oper} {l:List Oper}
theorem ga {f:Nat} {args:List U} {c:Bool} {t':U->PT U} (hw:bM ops t o=some true) (hv:ey P G (bB G t) V o.op= .enter f args V) (hp:∀v,dJ t n o.dst v=some (t' v))
  (hc:bu P G f args V fun v V'=>v= .bool c/\D V' K L) (h1:c=true->∀V',D V' K L->bS P G ops n l (t' (.bool true)) V' Q) (h0:c=false->∀V',D V' K L->bS P G ops n l (t' (.bool false)) V' Q):bS P G ops n (o::l) t V Q:=
 cM hw hv hp hc fun v V' ⟨hv,ar⟩=>by
  subst hv;cases c with
  | true=>exact h1 Z V' ar
  | false=>exact h0 Z V' ar
theorem bz {f:Nat} {args:List U} {u:U} {t':U->PT U} (hw:bM ops t o=some true) (hv:ey P G (bB G t) V o.op= .enter f args V) (hp:∀v,dJ t n o.dst v=some (t' v))
  (hc:bu P G f args V fun v V'=>v=u/\D V' K L) (h:∀V',D V' K L->bS P G ops n l (t' u) V' Q):bS P G ops n (o::l) t V Q:=
 cM hw hv hp hc fun v V' ⟨hv,ar⟩=>by simp_all
theorem aM {x:Operand} {a b:Code} (hc:bB G t x=some (.bool true)) (h:Ev P G a n t V Q):Ev P G (.cond x a b) n t V Q:=Av hc h
theorem aQ {x:Operand} {a b:Code} (hc:bB G t x=some (.bool false)) (h:Ev P G b n t V Q):Ev P G (.cond x a b) n t V Q:=Av hc h
theorem ad {b:Code} (h:Ev P G b n t V Q):dq P G n b Q .normal t V:=h
theorem aC {id:Nat} (h:Q .normal t V):ic id Q .normal t V:=h
theorem aK {id:Nat} (h:Q .ret t V):ic id Q .ret t V:=h
def xR (I:Nat->PT U->aE->Prop) (j:Nat) (Q:Ex->PT U->aE->Prop) (e:Ex) (t:PT U) (V:aE):Prop:=
 match e with
 | .normal=>∃i,i<j/\I i t V
 | e=>Q e t V
theorem aH {I:Nat->PT U->aE->Prop} {j:Nat} (h:∃i,i<j/\I i t V):xR I j Q .normal t V:=h
theorem aS {I:Nat->PT U->aE->Prop} {j i:Nat} (h:Q (.exit i) t V):xR I j Q (.exit i) t V:=h
theorem bD {I:Nat->PT U->aE->Prop} {j:Nat} (h:Q .ret t V):xR I j Q .ret t V:=h
theorem J2 {b:Code} (I:Nat->PT U->aE->Prop) (j:Nat) (m:I j t V) (step:∀j t V,I j t V->Ev P G b n t V (xR I j Q)):Ev P G (.loop b) n t V Q:=
 Ni I (fun j t V h=>(step j t V h).mono fun e t' V' hq=>by cases e<;>exact hq) j t V m
end
def Ku:Nat:=1000
def KG (f:Nat):Bool:=Nat.beq f 4
structure Plain (G:Cx):Prop where
 h1:∀f a s,G.Kx f a s=none
 h2:∀f a,KG f=false->G.LX f a=none
 h3:G.mem= []
 h4:∀f a s,G.stop f a s=none
 h5:∀f,Nat.beq f Ku=false->G.fk f=false
theorem J3 {P:Program} {G:Cx} (j:Plain G) {f:Nat} {fn:Func} {c:Code} {args:List U} {V:aE} {R:U->aE->Prop} {t:PT U} (hf:P.funcs[f]?=some fn) (hb:fn.body=some c) (m:rD fn.ntmps args=some t)
  (h:Ev P G c fn.ntmps t V fun e t' V'=>(e= .normal∨e= .ret)/\∃v,eG P fn t' V'=some v/\R v V') (hk:Nat.beq f Ku=false:=by rfl) (hl:KG f=false:=by rfl):bu P G f args V R:=
 Nh (j.h1 _ _ _) (j.h2 _ _ hl) (j.h4 _ _ _) (j.h5 _ hk) hf hb m h
def EF (P:Program) (fn:Func) (R:U->aE->Prop) (e:Ex) (t:PT U) (V:aE):Prop:=(e= .normal∨e= .ret)/\∃v,eG P fn t V=some v/\R v V
theorem bn {P:Program} {G:Cx} (j:Plain G) {f:Nat} {fn:Func} {c:Code} {args:List U} {V:aE} {R:U->aE->Prop} {t:PT U} (hf:P.funcs[f]?=some fn) (hb:fn.body=some c) (m:rD fn.ntmps args=some t)
  (h:Ev P G c fn.ntmps t V (EF P fn R)) (hk:Nat.beq f Ku=false:=by rfl) (hl:KG f=false:=by rfl):bu P G f args V R:=J3 j hf hb m h hk hl
theorem Dj {P:Program} {fn:Func} {k:Nat} {t:PT U} {V:aE} {v:U} (j:fn.results.toList= [.tmp k]) (h:t.get k=some v):eG P fn t V=some v:=by
 unfold eG;rw[j]
 have:dB (gE P t V) [.tmp k]=some [v]:=by
  have h':gE P t V (.tmp k)=some v:=h;unfold dB;simp only[h']
 rw[this]
theorem vT {P:Program} {fn:Func} {j k:Nat} {t:PT U} {V:aE} {u v:U} (z:fn.results.toList= [.tmp j,.tmp k]) (h1:t.get j=some u) (A:t.get k=some v):eG P fn t V=some (.tuple [u,v]):=by
 unfold eG;rw[z]
 have:dB (gE P t V) [.tmp j,.tmp k]=some [u,v]:=by
  have m:gE P t V (.tmp j)=some u:=h1;have w:gE P t V (.tmp k)=some v:=A;unfold dB;simp only[m,w]
 rw[this]
theorem aB {P:Program} {fn:Func} {R:U->aE->Prop} {t:PT U} {V:aE} {k:Nat} {v:U} (j:fn.results.toList= [.tmp k]) (h:t.get k=some v) (m:R v V):EF P fn R .ret t V:=⟨.inr Z,v,Dj j h,m⟩
theorem dA {P:Program} {fn:Func} {R:U->aE->Prop} {t:PT U} {V:aE} {j k:Nat} {u v:U} (m:fn.results.toList= [.tmp j,.tmp k]) (h1:t.get j=some u) (w:t.get k=some v) (z:R (.tuple [u,v]) V):EF P fn R .ret t V:=⟨.inr Z,_,vT m h1 w,z⟩
end Go.Ev
namespace Go.Ev
theorem kq.eta {α:Type} (t:kq α):t=⟨(jU 0).run t,(jU 1).run t,(jU 2).run t,(jU 3).run t,(jU 4).run t,(jU 5).run t,(jU 6).run t,(jU 7).run t,(jU 8).run t,(jU 9).run t,(jU 10).run t,(jU 11).run t,(jU 12).run t,(jU 13).run t,(jU 14).run t,(jU 15).run t⟩:=by cases t;rfl
theorem kq.same {α:Type} {t t':kq α} (h:∀n,n<16->(jU n).run t=(jU n).run t'):t=t':=by
 rw[kq.eta t,h 0 (by decide),h 1 (by decide),h 2 (by decide),h 3 (by decide),h 4 (by decide),h 5 (by decide),h 6 (by decide),h 7 (by decide),h 8 (by decide),h 9 (by decide),h 10 (by decide),h 11 (by decide),h 12 (by decide),h 13 (by decide),h 14 (by decide),h 15 (by decide),<-kq.eta t']
theorem jC.same {α:Type} {t t':jC α} (h:∀k,k<256->ka t k=ka t' k):t=t':=by
 refine kq.same fun n hn=>kq.same fun m hm=>?_
 have:=h (n*16+m) oM;unfold ka at this;have e1:Nat.div (n*16+m) 16=n:=by show(n*16+m)/16=n;omega
 have e2:Nat.mod (n*16+m) 16=m:=by show(n*16+m)%16=m;omega
 simp_all
variable [Env]
def aT (W:List Nat) (t t':PT U):Prop:=t'.m=t.m/\t'.l=t.l/\∀k,k<256->W.elem k=false->ka t'.s k=ka t.s k
theorem aT.refl (W:List Nat) (t:PT U):aT W t t:=⟨Z,Z,fun _ _ _=>Z⟩
theorem aT.put {W:List Nat} {t t':PT U} {w:Nat} {o:Option U} (hw:(W.elem w && Nat.blt w 256)=true) (h:aT W t t'):aT W t (t'.put o w):=by
 obtain⟨h1,j,u⟩:=h;rw[bA_,wj] at hw;obtain⟨s,m,l⟩:=t';rw[PT.tD _ _ _ _ hw.2];refine⟨h1,j,fun k hk z=>?_⟩;show ka (qh s w o) k=_;rw[me _ _ _ _ hw.2 hk,if_neg (fun e=>by simp_all)];exact u k hk z
theorem aT.dz {W:List Nat} {t t':PT U} {w:Nat} (hw:Nat.blt w 256=true) (h:aT (w::W) t t'):∃o,aT W (t.put o w) t':=by
 rw[wj] at hw;obtain⟨h1,j,h3⟩:=h;refine⟨t'.get w,?_⟩;obtain⟨s,m,l⟩:=t;rw[PT.tD _ _ _ _ hw,PT.pP _ hw];refine⟨h1,j,fun k hk hn=>?_⟩
 grind [me]
theorem aT.jD {W:List Nat} {t t':PT U} {a b c d:Nat} (hw:(Nat.blt a 256 && (Nat.blt b 256 && (Nat.blt c 256 && Nat.blt d 256)))=true) (h:aT (a::b::c::d::W) t t'):∃j m u w,aT W ((((t.put j a).put m b).put u c).put w d) t':=by
 simp only[bA_] at hw;obtain⟨h1,z,A,h4⟩:=hw;obtain⟨j,h⟩:=h.dz h1;obtain⟨m,h⟩:=h.dz z;obtain⟨u,h⟩:=h.dz A;obtain⟨w,h⟩:=h.dz h4
 grind
theorem aT.bH {W:List Nat} {t t':PT U} {a b c d e f g i:Nat} (hw:(Nat.blt a 256 && (Nat.blt b 256 && (Nat.blt c 256 && Nat.blt d 256)))=true) (j:(Nat.blt e 256 && (Nat.blt f 256 && (Nat.blt g 256 && Nat.blt i 256)))=true) (h:aT (a::b::c::d::e::f::g::i::W) t t'):
  ∃m u w z A B C E,aT W ((((((((t.put m a).put u b).put w c).put z d).put A e).put B f).put C g).put E i) t':=by
 obtain⟨m,u,w,z,h⟩:=h.jD hw;obtain⟨A,B,C,E,h⟩:=h.jD j
 grind
theorem aT.nil {t t':PT U} (h:aT [] t t'):t'=t:=by
 obtain⟨s,m,l⟩:=t;obtain⟨s',m',l'⟩:=t';obtain⟨h1,h2,j⟩:=h;have:s'=s:=jC.same fun k hk=>j k hk Z
 simp_all
section
variable {P:Program} {G:Cx} {n:Nat} {t:PT U} {V:aE} {Q:Ex->PT U->aE->Prop}
theorem bf {b:Code} (W:List Nat) (I:Nat->PT U->aE->Prop) (j:Nat) (m:I j t V) (step:∀j t' V,aT W t t'->I j t' V->Ev P G b n t' V (xR (fun j t'' V=>aT W t t''/\I j t'' V) j Q)):Ev P G (.loop b) n t V Q:=
 J2 (fun j t'' V=>aT W t t''/\I j t'' V) j ⟨aT.refl _ _,m⟩ fun j t' V h=>step j t' V h.1 h.2
end
theorem jO {a b:Nat}:b9 (.ofNat a) (.ofNat b)=decide (a<b):=by
 show Nat.ble (Nat.succ a) b=_;rw[Bool.eq_iff_iff,nE_,decide_eq_true_iff];rfl
theorem fc {a b:Nat}:H (.ofNat a) (.ofNat b)=decide (a=b):=by
 show Nat.beq a b=_;rw[Bool.eq_iff_iff,Nat.beq_eq,decide_eq_true_iff]
theorem aW {i:Nat} (h:i<9223372036854775807):wr .i64 (Int.add (.ofNat i) (.ofNat 1))= .ofNat (i+1):=by
 show(bif Nat.ble (i+1) 9223372036854775807 then _ else _)=_
 grind [nE_]
end Go.Ev
namespace Go.Ev
variable [Env]
section
variable {P:Program} {G:Cx} {n:Nat} {t:PT U} {V:aE} {K:KP} {L:Own} {Q:Ex->PT U->aE->Prop} {ops:Array Oper} {o:Oper} {i:Nat} {rc:List Nat} {l:List (Nat×List Nat)}
theorem vE {v:U} {t':PT U} {V':aE} (hi:ops[i]?=some o) (hw:bM ops t o=some true) (hv:ey P G (bB G t) V o.op= .val v V') (hp:dJ t n o.dst v=some t') (h:dk P G ops t' V' rc=true/\cm P G ops n l t' V' Q):cm P G ops n ((i,rc)::l) t V Q:=by
 obtain⟨hs,K,e,j,m,h1,u⟩:=h;refine⟨K,e,j,m,fun d k hk=>?_,u⟩
 show(match ops[i]? with
  | some o=>iB P G (ep P G k) false ops n o t V (fun t' V'=>bif dk P G ops t' V' rc then jR P G (ep P G k) ops n d l t' V' else .err 86)
  | none=>.err 87)=_
 grind [iB,lj]
theorem oA {t':PT U} {V':aE} (hi:ops[i]?=some o) (hw:bM ops t o=some true) (hv:ey P G (bB G t) V o.op= .skip V') (hp:dJ t n o.dst unit=some t') (h:dk P G ops t' V' rc=true/\cm P G ops n l t' V' Q):cm P G ops n ((i,rc)::l) t V Q:=by
 obtain⟨hs,K,e,j,m,h1,u⟩:=h;refine⟨K,e,j,m,fun d k hk=>?_,u⟩
 show(match ops[i]? with
  | some o=>iB P G (ep P G k) false ops n o t V (fun t' V'=>bif dk P G ops t' V' rc then jR P G (ep P G k) ops n d l t' V' else .err 86)
  | none=>.err 87)=_
 grind [iB,lj]
theorem ba:dk P G ops t V []=true:=rfl
theorem bx {j:Nat} {l:List Nat} (h:ji P G ops t V j=true) (hl:dk P G ops t V l=true):dk P G ops t V (j::l)=true:=by
 grind [dk]
theorem bC {k:Nat} {v:U} (hi:ops[i]?=some o) (hw:bM ops t o=some true) (hd:o.dst=some k) (hg:t.get k=some v) (hk:kindOf P o.op= .read) (h:ey P G (bB G t) V o.op= .val v V) (hb:eh v v=true):ji P G ops t V i=true:=by
 have hr:gq P (bB G t) V o.op=some v:=by
  grind [ey]
 unfold ji
 simp_all
theorem LU (hi:ops[i]?=some o) (hw:bM ops t o=some false):ji P G ops t V i=true:=by
 unfold ji
 simp_all
theorem iE {k b e:Nat} {cs:List U} (hi:ops[i]?=some o) (hw:bM ops t o=some true) (hd:o.dst=some k) (hg:t.get k=some (.ptr b 0)) (hk:kindOf P o.op= .alloc) (ha:fy P (bB G t) o.op=some (.row cs e false,.ptr)) (hm:V.m.get b=some (.row cs e false)) (hb:eh.beqL cs cs=true):ji P G ops t V i=true:=by
 unfold ji
 simp_all
theorem fq (k:IntKind) (n:Int):eh.lh (.int k n) (.int k n)=true:=by
 show(s6 k k && H n n)=true;rw[cW];cases k<;>simp[s6]
theorem sT (s:List Nat):eh.lh (.str s) (.str s)=true:=by
 show gK s s=true;rw[lk];simp
theorem bL.lh {α:Type} {K:KP} {m:Nat} {R:α->List U->Prop} {l:List α} {v:U} (h:bL K m R l v):eh.lh v v=true:=by
 rcases h with ⟨_,rfl⟩ | ⟨b,off,c,cells,e,ro,rfl,hc,_⟩
 ·rfl
 show(eh.beqP b b && Nat.beq off off && Nat.beq l.length l.length && eh.beqC c c)=true;have hp:eh.beqP b b=true:=Nat.beq_refl b
 have j:eh.beqC c c=true:=by
  rcases hc with rfl | ⟨n,rfl,_⟩
  ·exact Nat.beq_refl m
  exact Nat.beq_refl n
 simp[hp,j]
theorem gM:eh.beqL [] []=true:=rfl
theorem cR {v:U} {vs:List U} (h:eh.lh v v=true) (hs:eh.beqL vs vs=true):eh.beqL (v::vs) (v::vs)=true:=by
 grind [eh.beqL]
theorem iP {vs:List U} (h:eh.beqL vs vs=true):eh (.agg vs) (.agg vs)=true:=h
theorem eg {c:Bool} {t':Bool->PT U} (j:ops[i]?=some o) (hw:bM ops t o=some true) (hv:ey P G (bB G t) V o.op= .val (.bool c) V) (hp:∀b,dJ t n o.dst (.bool b)=some (t' b))
  (h1:c=true->cm P G ops n l (t' true) V Q) (h0:c=false->cm P G ops n l (t' false) V Q):cm P G ops n ((i,[])::l) t V Q:=by
 refine ai j hw hv (hp c) ?_;cases c with
 | true=>exact h1 Z
 | false=>exact h0 Z
theorem qd (m:D V K L) {ob:cD} {t':Nat->PT U} (j:ops[i]?=some o) (hw:bM ops t o=some true) (hv:ey P G (bB G t) V o.op= .val (.ptr V.next 0) (V.alloc ob)) (hp:∀b,dJ t n o.dst (.ptr b 0)=some (t' b))
  (h:∀(V':aE) (b:Nat),D V' K ((b,ob)::L)->cm P G ops n l (t' b) V' Q):cm P G ops n ((i,[])::l) t V Q:=
 ai j hw hv (hp _) (h _ _<|m.alloc ob)
theorem qc (m:D V K L) {ob:cD} {k c:Nat} {t':Nat->PT U} (j:ops[i]?=some o) (hw:bM ops t o=some true) (hv:ey P G (bB G t) V o.op= .val (.slice V.next 0 k (.known c)) (V.alloc ob)) (hp:∀b,dJ t n o.dst (.slice b 0 k (.known c))=some (t' b))
  (h:∀(V':aE) (b:Nat),D V' K ((b,ob)::L)->cm P G ops n l (t' b) V' Q):cm P G ops n ((i,[])::l) t V Q:=
 ai j hw hv (hp _) (h _ _<|m.alloc ob)
theorem iM {b:Nat} {ob ob':cD} {t':PT U} (m:D V K ((b,ob)::L)) (j:ops[i]?=some o) (hw:bM ops t o=some true) (hv:ey P G (bB G t) V o.op= .skip (V.setObj b ob')) (hp:dJ t n o.dst unit=some t')
  (h:∀V',D V' K ((b,ob')::L)->(dk P G ops t' V' rc=true/\cm P G ops n l t' V' Q)):cm P G ops n ((i,rc)::l) t V Q:=oA j hw hv hp (h _<|m.uU ob')
theorem oN {b:Nat} {ob ob':cD} {x:Nat×cD} {t':PT U} (m:D V K (x::(b,ob)::L)) (j:ops[i]?=some o) (hw:bM ops t o=some true) (hv:ey P G (bB G t) V o.op= .skip (V.setObj b ob')) (hp:dJ t n o.dst unit=some t')
  (h:∀V',D V' K (x::(b,ob')::L)->(dk P G ops t' V' rc=true/\cm P G ops n l t' V' Q)):cm P G ops n ((i,rc)::l) t V Q:=oA j hw hv hp (h _<|m.N8 ob')
theorem bV {α:Type} {m:Nat} {R:α->List U->Prop} {la:List α} {v:U} {ix:Nat} {x:α} {ty e:TypeId} {xo io:Operand} {k:IntKind} {t':U->PT U} (z:bL K m R la v) (hi:la[ix]?=some x) (j:ops[i]?=some o) (hw:bM ops t o=some true) (A:o.op= .indexAddr ty xo io)
  (B:P.underlying ty=some (.slice e)) (hj:(P.info? e).map (·.size)=some m) (hx:bB G t xo=some v) (u:bB G t io=some (.int k (.ofNat ix))) (hp:∀p,dJ t n o.dst p=some (t' p))
  (h:∀p vs,eL K p vs->vs.length=m->R x vs->cm P G ops n l (t' p) V Q):cm P G ops n ((i,[])::l) t V Q:=by
 obtain⟨b,off,c,vs,rfl,w,h1,C,E⟩:=z.at hi;refine ai j hw ?_ (hp _)<|h _ vs h1 C E;rw[A];exact fS B hj hx u w
theorem eQ {p:U} {vs:List U} {s:TypeId} {xo:Operand} {fi k:Nat} {t':U->PT U} (j:eL K p vs) (m:ops[i]?=some o) (hw:bM ops t o=some true) (u:o.op= .fieldAddr s xo fi) (hx:bB G t xo=some p) (hk:nM P s fi=some k) (hl:k<=vs.length) (hp:∀p,dJ t n o.dst p=some (t' p))
  (h:∀p',eL K p' (vs.drop k)->cm P G ops n l (t' p') V Q):cm P G ops n ((i,[])::l) t V Q:=by
 obtain⟨b,off,cells,e,ro,rfl,w,h3,h4⟩:=j;refine ai m hw ?_ (hp _)<|h _ ⟨b,off+k,cells,e,ro,Z,w,by grind,?_⟩
 ·rw[u];exact av hx hk
 grind [List.drop_take,List.drop_drop]
theorem fB {f:Nat} {args:List U} {t':U->PT U} {R:U->aE->Prop} (j:ops[i]?=some o) (hw:bM ops t o=some true) (hv:ey P G (bB G t) V o.op= .enter f args V) (hp:∀v,dJ t n o.dst v=some (t' v))
  (hc:bu P G f args V R) (h:∀v V',R v V'->(dk P G ops (t' v) V' rc=true/\cm P G ops n l (t' v) V' Q)):cm P G ops n ((i,rc)::l) t V Q:=by
 refine Cm j hw hv<|hc.mono fun v V' hr=>?_
 simp_all
theorem GH {f:Nat} {args:List U} {c:Bool} {t':U->PT U} (j:ops[i]?=some o) (hw:bM ops t o=some true) (hv:ey P G (bB G t) V o.op= .enter f args V) (hp:∀v,dJ t n o.dst v=some (t' v))
  (hc:bu P G f args V fun v V'=>v= .bool c/\D V' K L) (h1:c=true->∀V',D V' K L->(dk P G ops (t' (.bool true)) V' rc=true/\cm P G ops n l (t' (.bool true)) V' Q)) (h0:c=false->∀V',D V' K L->(dk P G ops (t' (.bool false)) V' rc=true/\cm P G ops n l (t' (.bool false)) V' Q)):cm P G ops n ((i,rc)::l) t V Q:=
 fB j hw hv hp hc fun v V' ⟨hv,ar⟩=>by
  subst hv;cases c with
  | true=>exact h1 Z V' ar
  | false=>exact h0 Z V' ar
theorem eB {f:Nat} {args:List U} {u:U} {t':U->PT U} (j:ops[i]?=some o) (hw:bM ops t o=some true) (hv:ey P G (bB G t) V o.op= .enter f args V) (hp:∀v,dJ t n o.dst v=some (t' v))
  (hc:bu P G f args V fun v V'=>v=u/\D V' K L) (h:∀V',D V' K L->(dk P G ops (t' u) V' rc=true/\cm P G ops n l (t' u) V' Q)):cm P G ops n ((i,rc)::l) t V Q:=
 fB j hw hv hp hc fun v V' ⟨hv,ar⟩=>by simp_all
theorem aU {id:Nat} {l:List (Nat×List Nat)} (hf:ux P ops=true) (hl:jQ P ops=l) (h:cm P G ops n l t V Q):Ev P G (.region id ops true) n t V Q:=by
 subst hl;exact xm hf h
end
end Go.Ev
namespace Go.Ev
variable [Env]
section
variable {P:Program} {G:Cx} {n:Nat} {t:PT U} {V:aE} {Q:Ex->PT U->aE->Prop} {ops:Array Oper} {o:Oper} {l:List Oper}
end
section
variable {P:Program} {G:Cx} {n:Nat} {V:aE} {Q:Ex->PT U->aE->Prop} {ops:Array Oper}
def Fo (n:Nat) (t:PT U) (d:Option Nat) (v:Option U):Option (PT U):=match v with | some v=>dJ t n d v | none=>none
def Jp (P:Program) (k:Bool) (o:BinOp) (ty:TypeId) (a b:Option U):Option U:=match a with | some a=>(match b with | some b=>r8 P k o ty a b | none=>none) | none=>none
def C9 (c a b:Option U):Option U:=match c with | some (.bool q)=>if q then a else b | _=>none
def PQ (P:Program) (G:Cx) (t:PT U) (op:Op):Option U:=
 match op with
 | .move x=>bB G t x
 | .assign x=>bB G t x
 | .pick c a b=>C9 (bB G t c) (bB G t a) (bB G t b)
 | .binOp o ty x y _=>Jp P (zy x || zy y) o ty (bB G t x) (bB G t y)
 | .extract x i=>dI P (bB G t) (.extract x i)
 | .makeFunc x y z=>dI P (bB G t) (.makeFunc x y z)
 | .unOp x y z=>dI P (bB G t) (.unOp x y z)
 | .field x y z=>dI P (bB G t) (.field x y z)
 | _=>none
theorem x6 {t:PT U} {op:Op} {v:U} (h:PQ P G t op=some v):ey P G (bB G t) V op= .val v V:=by
 unfold PQ at h;split at h
 ·exact aq h
 ·exact ak h
 ·unfold C9 at h;split at h
  ·rename_i q hc;exact ay hc h
  cases h
 ·unfold Jp at h;split at h
  ·rename_i a j;split at h
   ·rename_i b hb;exact ax j hb h
   cases h
  cases h
 ·exact bU Z h
 ·exact bU Z h
 ·exact bU Z h
 ·exact bU Z h
 cases h
def mF (P:Program) (G:Cx) (ops:Array Oper) (n:Nat) (t:PT U) (o:Oper):Option (PT U):=
 match bM ops t o with
 | some w=>bif w then Fo n t o.dst (PQ P G t o.op) else dJ t n o.dst unit
 | none=>none
theorem tO {t t':PT U} {o:Oper} {l:List Oper} (h:mF P G ops n t o=some t') (j:bS P G ops n l t' V Q):bS P G ops n (o::l) t V Q:=by
 unfold mF at h;split at h
 ·rename_i w hw;cases w with
  | true=>
   simp only[cond_true] at h;unfold Fo at h;split at h
   ·rename_i v hv;exact Y hw (x6 hv) h j
   cases h
  | false=>exact ae hw h j
 cases h
def quick (P:Program) (G:Cx) (ops:Array Oper) (n:Nat):Nat->List Oper->PT U->Option (List Oper×PT U)
 | 0,l,t=>some (l,t)
 | k+1,l,t=>match l with
  | o::l=>match mF P G ops n t o with
   | some t'=>quick P G ops n k l t'
   | none=>none
  | []=>none
theorem vQ (k:Nat) {l l':List Oper} {t t':PT U} (h:quick P G ops n k l t=some (l',t')) (j:bS P G ops n l' t' V Q):bS P G ops n l t V Q:=by
 induction k generalizing l t with
 | zero=>simp only[quick,oJ_,Prod.mk.injEq] at h;obtain⟨rfl,rfl⟩:=h;exact j
 | succ k ih=>
  unfold quick at h;split at h
  ·split at h
   ·rename_i t1 h1;exact tO h1<|ih h
   cases h
  cases h
def oS (P:Program) (G:Cx) (ops:Array Oper) (n:Nat):Nat->List (Nat×List Nat)->PT U->Option (List (Nat×List Nat)×PT U)
 | 0,l,t=>some (l,t)
 | k+1,l,t=>match l with
  | (i,[])::l=>match ops[i]? with
   | some o=>match mF P G ops n t o with
    | some t'=>oS P G ops n k l t'
    | none=>none
   | none=>none
  | _=>none
theorem tN {t t':PT U} {i:Nat} {o:Oper} {l:List (Nat×List Nat)} (hi:ops[i]?=some o) (h:mF P G ops n t o=some t') (j:cm P G ops n l t' V Q):cm P G ops n ((i,[])::l) t V Q:=by
 unfold mF at h;split at h
 ·rename_i w hw;cases w with
  | true=>
   simp only[cond_true] at h;unfold Fo at h;split at h
   ·rename_i v hv;exact ai hi hw (x6 hv) h j
   cases h
  | false=>exact au hi hw h j
 cases h
theorem wQ (k:Nat) {l l':List (Nat×List Nat)} {t t':PT U} (h:oS P G ops n k l t=some (l',t')) (j:cm P G ops n l' t' V Q):cm P G ops n l t V Q:=by
 induction k generalizing l t with
 | zero=>simp only[oS,oJ_,Prod.mk.injEq] at h;obtain⟨rfl,rfl⟩:=h;exact j
 | succ k ih=>
  unfold oS at h;split at h
  ·split at h
   ·rename_i o m;split at h
    ·rename_i t1 h1;exact tN m h1<|ih h
    cases h
   cases h
  cases h
section
variable {ev:Operand->Option U} {K:KP} {L:Own}
theorem TC (k:Nat) {s:TypeId} {x:Operand} {i:Nat} {b:Pos} {off:Nat} (hx:ev x=some (.ptr b off)) (hk:nM P s i=some k:=by kernel_rfl):ey P G ev V (.fieldAddr s x i)= .val (.ptr b (off+k)) V:=av hx hk
theorem TB {c:Call} {f:Operand} {g:Nat} {fi ca args:List U} (hc:c.callee= .value f) (hf:ev f=some (.func g fi ca)) (j:nL ev c.args.toList=some args) (m:xM P g=true:=by kernel_rfl):ey P G ev V (.call c)= .enter g (fi++(args++ca)) V:=aV hc hf j m
theorem TD {t:TypeId} {x:Operand} {b:Pos} {off:Nat} {cells:List U} {e:Nat} {ro:Bool} {v:U} (hx:ev x=some (.ptr b off)) (hb:V.m.get b=some (.row cells e ro)) (hv:nth cells off=some v) (j:dZ P t=some none:=by kernel_rfl):ey P G ev V (.load t x)= .val v V:=aw hx hb j hv
theorem TE {t:TypeId} {x:Operand} {b:Pos} {off n:Nat} {cells:List U} {e:Nat} {ro:Bool} {vs:List U} (hx:ev x=some (.ptr b off)) (hb:V.m.get b=some (.row cells e ro)) (hv:(cells.drop off).take n=vs) (j:dZ P t=some (some n):=by kernel_rfl) (hl:off+n<=cells.length:=by exact Nat.le_of_ble_eq_true Z):ey P G ev V (.load t x)= .val (.agg vs) V:=aY hx hb j hl hv
theorem TJ {t:TypeId} {m:Nat} {x y:Operand} {b:Pos} {off:Nat} {v:U} {cs cells cells':List U} {e:Nat} (hx:ev x=some (.ptr b off)) (u:ev y=some v) (hc:cU v=some cs) (hb:V.m.get b=some (.row cells e false)) (hl:cs.length=m) (j:cP cs=true) (w:ed cs cells off=cells')
  (hj:(P.info? t).map (·.size)=some m:=by kernel_rfl) (hle:off+m<=cells.length:=by exact Nat.le_of_ble_eq_true Z):ey P G ev V (.store t x y)= .skip (V.setObj b (.row cells' e false)):=aR hx u hc hb hj hl hle j w
theorem TA {t:TypeId} {parts:Array (Nat×Operand)} {places:List (Nat×Nat)} {zero cs:List U} (hf:jI (nth places) ev parts.toList zero=some cs) (hp:placesOf P t=some places:=by kernel_rfl) (j:(fl P t).bind cU=some zero:=by kernel_rfl) (hu:dZ P t=some (some zero.length):=by kernel_rfl) (m:(structOf P t).isSome=true:=by kernel_rfl):ey P G ev V (.build t parts)= .val (.agg cs) V:=cH hp j hu hf m
theorem TG {e:TypeId} {cs:List U} (j:(fl P e).bind cU=some cs:=by kernel_rfl) (m:tJ P e=false:=by kernel_rfl):ey P G ev V (.alloc e)= .val (.ptr V.next 0) (V.alloc (.row cs e false)):=cQ j m
theorem TF {α:Type} {m:Nat} {R:α->List U->Prop} {l:List α} {c:Call} {t e:TypeId} {x:Operand} {v:U} (j:bL K m R l v) (hc:c.callee= .builtin .len) (u:c.argTypes[0]?=some t) (w:c.args.toList= [x]) (hx:ev x=some v) (hu:P.underlying t=some (.slice e):=by kernel_rfl):ey P G ev V (.call c)= .val (.int .i64 (.ofNat l.length)) V:=aZ j hc u w hu hx
theorem TH {t:TypeId} {x:Operand} {p v:U} {vs:List U} (j:D V K L) (hp:eL K p vs) (hx:ev x=some p) (hv:vs[0]?=some v) (m:dZ P t=some none:=by kernel_rfl):ey P G ev V (.load t x)= .val v V:=aN j hp hx m hv
theorem Tw {n:Nat} {t:PT U} {o:Oper} {l:List Oper} {α:Type} {m:Nat} {R:α->List U->Prop} {la:List α} {v:U} {i:Nat} {x:α} {ty e:TypeId} {xo io:Operand} {k:IntKind} {t':U->PT U} (u:bL K m R la v) (hi:la[i]?=some x) (hw:bM ops t o=some true) (w:o.op= .indexAddr ty xo io)
  (hx:bB G t xo=some v) (j:bB G t io=some (.int k (.ofNat i)))
  (h:∀p vs,eL K p vs->vs.length=m->R x vs->bS P G ops n l (t' p) V Q) (z:P.underlying ty=some (.slice e):=by kernel_rfl) (hj:(P.info? e).map (·.size)=some m:=by kernel_rfl) (hp:∀p,dJ t n o.dst p=some (t' p):=by exact fun _=>Z):bS P G ops n (o::l) t V Q:=bT u hi hw w z hj hx j hp h
theorem Tx {n i:Nat} {t:PT U} {o:Oper} {l:List (Nat×List Nat)} {α:Type} {m:Nat} {R:α->List U->Prop} {la:List α} {v:U} {ix:Nat} {x:α} {ty e:TypeId} {xo io:Operand} {k:IntKind} {t':U->PT U} (w:bL K m R la v) (hi:la[ix]?=some x) (j:ops[i]?=some o) (hw:bM ops t o=some true) (z:o.op= .indexAddr ty xo io)
  (hx:bB G t xo=some v) (u:bB G t io=some (.int k (.ofNat ix)))
  (h:∀p vs,eL K p vs->vs.length=m->R x vs->cm P G ops n l (t' p) V Q) (A:P.underlying ty=some (.slice e):=by kernel_rfl) (hj:(P.info? e).map (·.size)=some m:=by kernel_rfl) (hp:∀p,dJ t n o.dst p=some (t' p):=by exact fun _=>Z):cm P G ops n ((i,[])::l) t V Q:=bV w hi j hw z A hj hx u hp h
end
theorem aT.R9 {W:List Nat} {t t':PT U} {a b c d e f g i a' b' c' d' e' f' g' i':Nat} (hw:(Nat.blt a 256 && (Nat.blt b 256 && (Nat.blt c 256 && Nat.blt d 256)))=true) (j:(Nat.blt e 256 && (Nat.blt f 256 && (Nat.blt g 256 && Nat.blt i 256)))=true) (m:(Nat.blt a' 256 && (Nat.blt b' 256 && (Nat.blt c' 256 && Nat.blt d' 256)))=true) (u:(Nat.blt e' 256 && (Nat.blt f' 256 && (Nat.blt g' 256 && Nat.blt i' 256)))=true) (h:aT (a::b::c::d::e::f::g::i::a'::b'::c'::d'::e'::f'::g'::i'::W) t t'):
  ∃w z A B C E F I M R S T X u6 u7 u8,aT W ((((((((((((((((t.put w a).put z b).put A c).put B d).put C e).put E f).put F g).put I i).put M a').put R b').put S c').put T d').put X e').put u6 f').put u7 g').put u8 i') t':=by
 obtain⟨w,z,A,B,C,E,F,I,h⟩:=h.bH hw j;obtain⟨M,R,S,T,X,u6,u7,u8,h⟩:=h.bH m u;exact⟨w,z,A,B,C,E,F,I,M,R,S,T,X,u6,u7,u8,h⟩
theorem lb {a b:Nat} (h:Nat.ble a b=true):a<=b:=Nat.le_of_ble_eq_true h
theorem nT {b:Code} {t:PT U} {Q:Ex->PT U->aE->Prop} (h:Ev P G b n t V Q):bS P G ops n [] t V (dq P G n b Q):=af (ad h)
theorem nS {id:Nat} {os:Array Oper} {b:Code} {t:PT U} {Q:Ex->PT U->aE->Prop} (j:mh os.toList=false) (h:bS P G os n os.toList t V (dq P G n b Q)):bS P G ops n [] t V (dq P G n (.seq (.region id os false) b) Q):=af (ad<|al<|ah j h)
theorem TI {K:KP} {L:Own} {ev:Operand->Option U} {t:TypeId} {x:Operand} {p:U} {vs:List U} {n:Nat} (j:D V K L) (hp:eL K p vs) (hx:ev x=some p) (hv:vs.length=n) (m:dZ P t=some (some n):=by kernel_rfl):ey P G ev V (.load t x)= .val (.agg vs) V:=bN j hp hx m hv
theorem kv {K:KP} {L:Own} {n:Nat} {t:PT U} {o:Oper} {l:List Oper} {f:Nat} {args:List U} {u:U} {t':U->PT U} (hw:bM ops t o=some true) (hv:ey P G (bB G t) V o.op= .enter f args V)
  (hc:bu P G f args V fun v V'=>v=u/\D V' K L) (h:∀V',D V' K L->bS P G ops n l (t' u) V' Q) (hp:∀v,dJ t n o.dst v=some (t' v):=by exact fun _=>Z):bS P G ops n (o::l) t V Q:=bz hw hv hp hc h
theorem kp {K:KP} {L:Own} {n:Nat} {t:PT U} {o:Oper} {l:List Oper} (j:D V K L) {ob:cD} {t':Nat->PT U} (hw:bM ops t o=some true) (hv:ey P G (bB G t) V o.op= .val (.ptr V.next 0) (V.alloc ob))
  (h:∀(V':aE) (b:Nat),D V' K ((b,ob)::L)->bS P G ops n l (t' b) V' Q) (hp:∀b,dJ t n o.dst (.ptr b 0)=some (t' b):=by exact fun _=>Z):bS P G ops n (o::l) t V Q:=bG j hw hv hp h
abbrev N:U:=.int .i64 0
theorem oP {W:List Nat} {t t':PT U} {w:Nat} {o:Option U} (hw:(W.elem w && Nat.blt w 256)=true) (h:aT W t t'):aT W t (t'.put o w):=h.put hw
theorem oR (W:List Nat) (t:PT U):aT W t t:=.refl W t
theorem ct {α:Type} (a b:α):(bif true then a else b)=a:=rfl
theorem cf {α:Type} (a b:α):(bif false then a else b)=b:=rfl
theorem cI {a b:Int} (h:a=b):some (U.int .i64 a)=some (U.int .i64 b):=congrArg (fun z=>some (U.int .i64 z)) h
theorem cB {a b:Bool} (h:a=b):U.bool a=U.bool b:=congrArg U.bool h
theorem cJ {a b:Int} (h:a=b):U.int .i64 a=U.int .i64 b:=congrArg (U.int .i64) h
theorem D.g0 {K:KP} {L:Own} {b:Nat} {o:cD} (h:D V K ((b,o)::L)):V.m.get b=some o:=h.get 0 Z
theorem D.g1 {K:KP} {L:Own} {e:Nat×cD} {b:Nat} {o:cD} (h:D V K (e::(b,o)::L)):V.m.get b=some o:=h.get 1 Z
theorem ky {n:Nat} {t:PT U} {o:Oper} {l:List Oper} {c:Bool} {t':Bool->PT U} (hw:bM ops t o=some true) (hv:ey P G (bB G t) V o.op= .val (.bool c) V)
  (h1:c=true->bS P G ops n l (t' true) V Q) (h0:c=false->bS P G ops n l (t' false) V Q) (hp:∀b,dJ t n o.dst (.bool b)=some (t' b):=by exact fun _=>Z):bS P G ops n (o::l) t V Q:=aP hw hv hp h1 h0
end
section
variable {P:Program} {G:Cx} {n:Nat} {t:PT U} {V:aE} {Q:Ex->PT U->aE->Prop}
def R4 (W:List Nat) (t:PT U) (I:PT U->aE->Prop) (e:Ex) (t':PT U) (V':aE):Prop:=e= .normal/\aT W t t'/\I t' V'
theorem iA {a b:Code} (W:List Nat) (I:PT U->aE->Prop) (h1:Ev P G a n t V (R4 W t I)) (j:∀t' V',aT W t t'->I t' V'->Ev P G b n t' V' Q):Ev P G (.seq a b) n t V Q:=
 al (h1.mono fun e t' V' h=>by obtain⟨rfl,m,h4⟩:=h;exact j t' V' m h4)
end
end Go.Ev
namespace Go.Ev
variable [Env]
set_option maxRecDepth 4000
section
variable {P:Program} {G:Cx} {n:Nat} {V:aE} {Q:Ex->PT U->aE->Prop}
inductive Cf where
 | ops (os:Array Oper) (l:List Oper)
 | jQ (os:Array Oper) (l:List (Nat×List Nat))
 | code (c:Code)
 | out (e:Ex)
inductive Fm where
 | seq (b:Code)
 | dF (id:Nat)
 | Rv (I:Nat->PT U->aE->Prop) (j:Nat)
def QS (P:Program) (G:Cx) (n:Nat) (Q:Ex->PT U->aE->Prop):List Fm->Ex->PT U->aE->Prop
 | []=>Q
 | .seq b::r=>dq P G n b (QS P G n Q r)
 | .dF id::r=>ic id (QS P G n Q r)
 | .Rv I j::r=>xR I j (QS P G n Q r)
def At (P:Program) (G:Cx) (n:Nat) (V:aE) (Q:Ex->PT U->aE->Prop) (c:Cf) (fs:List Fm) (t:PT U):Prop:=
 match c with
 | .ops os l=>bS P G os n l t V (QS P G n Q fs)
 | .jQ os l=>cm P G os n l t V (QS P G n Q fs)
 | .code c=>Ev P G c n t V (QS P G n Q fs)
 | .out e=>QS P G n Q fs e t V
def FG (P:Program) (G:Cx) (n:Nat) (c:Code) (fs:List Fm) (t:PT U):Option (Cf×List Fm×PT U):=
 match c with
 | .seq a b=>some (.code a,.seq b::fs,t)
 | .region _ os false=>bif mh os.toList then none else some (.ops os os.toList,fs,t)
 | .cond x a b=>match bB G t x with
  | some (.bool true)=>some (.code a,fs,t)
  | some (.bool false)=>some (.code b,fs,t)
  | _=>none
 | .block id b=>some (.code b,.dF id::fs,t)
 | .skip=>some (.out .normal,fs,t)
 | .label _=>some (.out .normal,fs,t)
 | .exit id=>some (.out (.exit id),fs,t)
 | .ret=>some (.out .ret,fs,t)
 | _=>none
def Bj (P:Program) (G:Cx) (n:Nat) (c:Cf) (fs:List Fm) (t:PT U):Option (Cf×List Fm×PT U):=
 match c with
 | .ops _ []=>some (.out .normal,fs,t)
 | .ops os (o::l)=>match mF P G os n t o with
  | some t'=>some (.ops os l,fs,t')
  | none=>none
 | .jQ _ []=>some (.out .normal,fs,t)
 | .jQ os ((i,[])::l)=>match os[i]? with
  | some o=>match mF P G os n t o with
   | some t'=>some (.jQ os l,fs,t')
   | none=>none
  | none=>none
 | .jQ _ ((_,_::_)::_)=>none
 | .code c=>FG P G n c fs t
 | .out .normal=>match fs with
  | .seq b::r=>some (.code b,r,t)
  | .dF _::r=>some (.out .normal,r,t)
  | _=>none
 | .out (.exit j)=>match fs with
  | .seq _::r=>some (.out (.exit j),r,t)
  | .dF id::r=>bif Nat.beq j id then some (.out .normal,r,t) else some (.out (.exit j),r,t)
  | .Rv _ _::r=>some (.out (.exit j),r,t)
  | []=>none
 | .out .ret=>match fs with
  | .seq _::r=>some (.out .ret,r,t)
  | .dF _::r=>some (.out .ret,r,t)
  | .Rv _ _::r=>some (.out .ret,r,t)
  | []=>none
 | .out _=>none
theorem IP {c:Code} {c':Cf} {fs fs':List Fm} {t t':PT U} (h:FG P G n c fs t=some (c',fs',t')) (j:At P G n V Q c' fs' t'):Ev P G c n t V (QS P G n Q fs):=by
 unfold FG at h;split at h
 ·cases h;exact al j
 ·rename_i os;cases m:mh os.toList with
  | true=>rw[m] at h;cases h
  | false=>rw[m] at h;cases h;exact ah m j
 ·split at h
  ·rename_i hx;cases h;exact aM hx j
  ·rename_i hx;cases h;exact aQ hx j
  cases h
 ·cases h;exact aJ j
 ·cases h;exact aG j
 ·cases h;exact J1 j
 ·cases h;exact bg j
 ·cases h;exact aF j
 cases h
theorem zX {c c':Cf} {fs fs':List Fm} {t t':PT U} (h:Bj P G n c fs t=some (c',fs',t')) (m:At P G n V Q c' fs' t'):At P G n V Q c fs t:=by
 unfold Bj at h;split at h
 ·cases h;exact af m
 ·split at h
  ·rename_i u;cases h;exact tO u m
  cases h
 ·cases h;exact aX m
 ·split at h
  ·rename_i w;split at h
   ·rename_i u;cases h;exact tN w u m
   cases h
  cases h
 ·cases h
 ·exact IP h m
 ·split at h
  ·cases h;exact m
  ·cases h;exact m
  cases h
 ·rename_i j;split at h
  ·cases h;exact m
  ·rename_i id r;cases hj:Nat.beq j id with
   | true=>
    rw[hj] at h;cases h;have:=nB hj;subst this;exact aL m
   | false=>rw[hj] at h;cases h;exact sV hj m
  ·cases h;exact m
  cases h
 ·split at h
  ·cases h;exact m
  ·cases h;exact m
  ·cases h;exact m
  cases h
 cases h
def iN (P:Program) (G:Cx) (n:Nat):Nat->Cf->List Fm->PT U->Option (Cf×List Fm×PT U)
 | 0,c,fs,t=>some (c,fs,t)
 | k+1,c,fs,t=>match Bj P G n c fs t with
  | some (c',fs',t')=>iN P G n k c' fs' t'
  | none=>none
theorem dT:∀(k:Nat) {c c':Cf} {fs fs':List Fm} {t t':PT U},iN P G n k c fs t=some (c',fs',t')->At P G n V Q c' fs' t'->At P G n V Q c fs t
 | 0,_,_,_,_,_,_,h,j=>by cases h;exact j
 | k+1,_,_,_,_,_,_,h,j=>by
  unfold iN at h;split at h
  ·rename_i m;exact zX m<|dT k h j
  cases h
inductive Cd where
 | fa (s i k:Nat)
 | ag (t:Nat)
def kS (P:Program):List Cd->Bool
 | []=>true
 | .fa s i k::r=>match nM P s i with
  | some q=>bif Nat.beq q k then kS P r else false
  | none=>false
 | .ag t::r=>match dZ P t with
  | some none=>kS P r
  | _=>false
def QP (P:Program) (G:Cx) (n:Nat) (os:Array Oper) (t:PT U) (o:Oper) (s i k:Nat) (x:Operand):Option (PT U):=
 match bM os t o with
 | some true=>match bB G t x with
  | some (.ptr b off)=>dJ t n o.dst (.ptr b (off+k))
  | _=>none
 | _=>none
def Q0 (P:Program) (G:Cx) (n:Nat) (os:Array Oper) (t:PT U) (o:Oper) (x:Operand) (b':Nat) (cells:List U):Option (PT U×Nat):=
 match bM os t o with
 | some true=>match bB G t x with
  | some (.ptr b off)=>match nth cells off with
   | some v=>match dJ t n o.dst v with
    | some t'=>some (t',b)
    | none=>none
   | none=>none
  | _=>none
 | _=>none
def Rw (P:Program) (G:Cx) (n:Nat) (L:Own) (os:Array Oper) (t:PT U) (o:Oper) (hs:List Nat) (cs:List Cd) (e1 e2:List Nat):Option (PT U×List Nat×List Cd×List Nat×List Nat):=
 match o.op,hs with
 | .fieldAddr s x i,k::hs=>match QP P G n os t o s i k x with
  | some t'=>some (t',hs,.fa s i k::cs,e1,e2)
  | none=>none
 | .load ty x,k::hs=>match nth L k with
  | some (b',.row cells _ _)=>match Q0 P G n os t o x b' cells with
   | some (t',b)=>some (t',hs,.ag ty::cs,b::e1,b'::e2)
   | none=>none
  | _=>none
 | _,_=>none
def Tq (o:Oper):Bool:=match o.op with
 | .fieldAddr ..=>true
 | .load ..=>true
 | _=>false
def SS (os:Array Oper) (t:PT U) (o:Oper):Bool:=match bM os t o with
 | some true=>Tq o
 | _=>false
def QQ (c:Cf) (t:PT U):Bool:=match c with
 | .ops os (o::_)=>SS os t o
 | .jQ os ((i,[])::_)=>match os[i]? with
  | some o=>SS os t o
  | none=>false
 | _=>false
def LO (P:Program) (G:Cx) (n:Nat) (L:Own) (c:Cf) (t:PT U) (hs:List Nat) (cs:List Cd) (e1 e2:List Nat):Option (Cf×PT U×List Nat×List Cd×List Nat×List Nat):=
 match c with
 | .ops os (o::l)=>match Rw P G n L os t o hs cs e1 e2 with
  | some (t',hs,cs,e1,e2)=>some (.ops os l,t',hs,cs,e1,e2)
  | none=>none
 | .jQ os ((i,[])::l)=>match os[i]? with
  | some o=>match Rw P G n L os t o hs cs e1 e2 with
   | some (t',hs,cs,e1,e2)=>some (.jQ os l,t',hs,cs,e1,e2)
   | none=>none
  | none=>none
 | _=>none
def rz (P:Program) (G:Cx) (n:Nat) (L:Own):Nat->Cf->List Fm->PT U->List Nat->List Cd->List Nat->List Nat->Option (Cf×List Fm×PT U×List Cd×List Nat×List Nat)
 | 0,c,fs,t,_,cs,e1,e2=>some (c,fs,t,cs,e1,e2)
 | k+1,c,fs,t,hs,cs,e1,e2=>match QQ c t with
  | true=>match LO P G n L c t hs cs e1 e2 with
   | some (c',t',hs',cs',e1',e2')=>rz P G n L k c' fs t' hs' cs' e1' e2'
   | none=>none
  | false=>match Bj P G n c fs t with
   | some (c',fs',t')=>rz P G n L k c' fs' t' hs cs e1 e2
   | none=>none
theorem MR {s i k:Nat} {r:List Cd} (h:kS P (.fa s i k::r)=true):nM P s i=some k/\kS P r=true:=by
 unfold kS at h;split at h
 ·rename_i q hq;cases hk:Nat.beq q k with
  | true=>rw[hk] at h;exact⟨by rw[hq,nB hk],h⟩
  | false=>rw[hk] at h;cases h
 cases h
theorem MQ {t:Nat} {r:List Cd} (h:kS P (.ag t::r)=true):dZ P t=some none/\kS P r=true:=by
 unfold kS at h;split at h
 ·rename_i j;exact⟨j,h⟩
 cases h
theorem K9 {K:KP} {L:Own} (ar:D V K L) {os:Array Oper} {t t':PT U} {o:Oper} {E u:List Nat} {cs cs':List Cd} {e1 B j m:List Nat} (h:Rw P G n L os t o E cs e1 B=some (t',u,cs',j,m)) (hc:kS P cs'=true) (he:j=m):
  (kS P cs=true/\e1=B)/\bM os t o=some true/\∃v,ey P G (bB G t) V o.op= .val v V/\dJ t n o.dst v=some t':=by
 unfold Rw at h;split at h
 ·rename_i s x i k w z;split at h
  ·rename_i F hf;cases h;obtain⟨h1,A⟩:=MR hc;unfold QP at hf;split at hf
   ·rename_i hw;split at hf
    ·rename_i b off hx;exact⟨⟨A,he⟩,hw,_,by rw[z];exact av hx h1,hf⟩
    cases hf
   cases hf
  cases h
 ·rename_i ty x k w z;split at h
  ·rename_i b' cells ee ro C;split at h
   ·rename_i F b hf;cases h;obtain⟨h1,A⟩:=MQ hc;have hb:b=b':=(List.cons.inj he).1;have he':=(List.cons.inj he).2;unfold Q0 at hf;split at hf
    ·rename_i hw;split at hf
     ·rename_i b2 off hx;split at hf
      ·rename_i v hv;split at hf
       ·rename_i t2 hp;cases hf;subst hb;rw[fG] at C;exact⟨⟨A,he'⟩,hw,v,by rw[z];exact aw hx (ar.get k C) h1 hv,hp⟩
       cases hf
      cases hf
     cases hf
    cases hf
   cases h
  cases h
 cases h
theorem LP {K:KP} {L:Own} (ar:D V K L) {c c':Cf} {fs:List Fm} {t t':PT U} {B u:List Nat} {cs cs':List Cd} {e1 z j m:List Nat} (h:LO P G n L c t B cs e1 z=some (c',t',u,cs',j,m)) (hk:kS P cs'=true) (he:j=m) (A:At P G n V Q c' fs t'):(kS P cs=true/\e1=z)/\At P G n V Q c fs t:=by
 unfold LO at h;split at h
 ·split at h
  ·rename_i w;cases h;obtain⟨h1,hw,v,hv,hp⟩:=K9 ar w hk he;exact⟨h1,Y hw hv hp A⟩
  cases h
 ·split at h
  ·rename_i o C;split at h
   ·rename_i w;cases h;obtain⟨h1,hw,v,hv,hp⟩:=K9 ar w hk he;exact⟨h1,ai C hw hv hp A⟩
   cases h
  cases h
 cases h
theorem gV {K:KP} {L:Own} (ar:D V K L):∀(k:Nat) {c c':Cf} {fs fs':List Fm} {t t':PT U} {j:List Nat} {cs cs':List Cd} {e1 A m u:List Nat},rz P G n L k c fs t j cs e1 A=some (c',fs',t',cs',m,u)->kS P cs'=true->m=u->At P G n V Q c' fs' t'->(kS P cs=true/\e1=A)/\At P G n V Q c fs t
 | 0,_,_,_,_,_,_,_,_,_,_,_,_,_,h,hk,he,w=>by cases h;exact⟨⟨hk,he⟩,w⟩
 | k+1,_,_,_,_,_,_,_,_,_,_,_,_,_,h,hk,he,w=>by
  unfold rz at h;split at h
  ·split at h
   ·rename_i j;obtain⟨⟨h1,B⟩,z⟩:=gV ar k h hk he w;exact LP ar j h1 B z
   cases h
  split at h
  ·rename_i j;obtain⟨h1,z⟩:=gV ar k h hk he w;exact⟨h1,zX j z⟩
  cases h
end
theorem aT.R8 {W:List Nat} {t t':PT U} {w:Nat} (hw:Nat.blt w 256=true) (h:aT (w::W) t t'):aT W (t.put (t'.get w) w) t':=by
 rw[wj] at hw;obtain⟨h1,j,u⟩:=h;obtain⟨s,m,l⟩:=t;rw[PT.tD _ _ _ _ hw,PT.pP _ hw];refine⟨h1,j,fun k hk z=>?_⟩;show _=ka (qh s w _) k;rw[me _ _ _ _ hw hk];split
 ·rename_i e;rw[e]
 rename_i e;refine u k hk ?_;rw[List.elem_cons,z];have:(k == w)=false:=by simpa using e
 rw[this]
def rS (o:Nat->Option U):PT U->List Nat->PT U
 | t,[]=>t
 | t,a::r=>rS o (t.put (o a) a) r
def yY (o:Nat->Option U):List (Nat×U)->Nat->Option U
 | [],a=>o a
 | (k,v)::r,a=>bif Nat.beq a k then some v else yY o r a
theorem z0 {o:Nat->Option U}:∀{ks:List (Nat×U)},(∀e∈ks,o e.1=some e.2)->yY o ks=o
 | [],_=>rfl
 | (k,v)::r,h=>funext fun a=>by
  show(bif Nat.beq a k then some v else yY o r a)=o a;cases hb:Nat.beq a k with
  | true=>rw[nB hb];exact(h (k,v) (.head _)).symm
  | false=>rw[z0 fun e he=>h e (.tail _ he)];rfl
def okW (W:List Nat):Bool:=W.all fun k=>Nat.blt k 256
theorem aT.fn {t':PT U}:∀{W:List Nat} {t:PT U},okW W=true->aT W t t'->t'=rS (fun k=>t'.get k) t W
 | [],_,_,h=>h.nil
 | a::r,t,hw,h=>by
  have hw:(Nat.blt a 256 && okW r)=true:=hw;rw[bA_] at hw;exact(aT.fn (W:=r) hw.2 (h.R8 hw.1):)
section
variable {W:List Nat} {t t':PT U}
theorem aT.qs {ks:List (Nat×U)} (h:aT W t t') (hk:∀e∈ks,t'.get e.1=some e.2) (hw:okW W=true):∃o,t'=rS (yY o ks) t W:=
 ⟨fun k=>t'.get k,(aT.fn hw h).trans<|congrArg (fun o=>rS o t W) (z0 hk).symm⟩
variable {k1 k2 k3 k4 k5 k6:Nat} {v1 v2 v3 v4 v5 v6:U} (h:aT W t t')
include h
theorem aT.q0 (hw:okW W=true):∃o,t'=rS (yY o []) t W:=h.qs (ks:=[]) (fun e he=>by cases he) hw
theorem aT.q1 (h1:t'.get k1=some v1) (hw:okW W=true):∃o,t'=rS (yY o [(k1,v1)]) t W:=h.qs (fun e he=>by simp at he;subst he;exact h1) hw
theorem aT.q2 (h1:t'.get k1=some v1) (j:t'.get k2=some v2) (hw:okW W=true):∃o,t'=rS (yY o [(k1,v1),(k2,v2)]) t W:=h.qs (fun e he=>by simp at he;rcases he with rfl | rfl;exact h1;exact j) hw
theorem aT.q3 (h1:t'.get k1=some v1) (j:t'.get k2=some v2) (m:t'.get k3=some v3) (hw:okW W=true):∃o,t'=rS (yY o [(k1,v1),(k2,v2),(k3,v3)]) t W:=h.qs (fun e he=>by simp at he;rcases he with rfl | rfl | rfl;exact h1;exact j;exact m) hw
theorem aT.q4 (h1:t'.get k1=some v1) (j:t'.get k2=some v2) (m:t'.get k3=some v3) (h4:t'.get k4=some v4) (hw:okW W=true):∃o,t'=rS (yY o [(k1,v1),(k2,v2),(k3,v3),(k4,v4)]) t W:=h.qs (fun e he=>by simp at he;rcases he with rfl | rfl | rfl | rfl;exact h1;exact j;exact m;exact h4) hw
theorem aT.q5 (h1:t'.get k1=some v1) (j:t'.get k2=some v2) (m:t'.get k3=some v3) (h4:t'.get k4=some v4) (h5:t'.get k5=some v5) (hw:okW W=true):∃o,t'=rS (yY o [(k1,v1),(k2,v2),(k3,v3),(k4,v4),(k5,v5)]) t W:=h.qs (fun e he=>by simp at he;rcases he with rfl | rfl | rfl | rfl | rfl;exact h1;exact j;exact m;exact h4;exact h5) hw
end
theorem oF {W:List Nat} {t t':PT U} (h:aT W t t':=by repeat (first | with_reducible exact aT.refl _ _ | refine aT.put Z ?_)):aT W t t':=h
def O6 (i:Nat) (t:PT U):List U->PT U
 | []=>t
 | a::r=>O6 (i+1) (t.put (some a) i) r
theorem SQ {P:Program} {G:Cx} (j:Plain G) {f:Nat} {fn:Func} {c:Code} {args:List U} {V:aE} {R:U->aE->Prop} (hf:P.funcs[f]?=some fn) (hb:fn.body=some c) (h:Ev P G c fn.ntmps (O6 0 .leaf args) V (EF P fn R))
  (m:rD fn.ntmps args=some (O6 0 .leaf args):=by rfl) (hk:Nat.beq f Ku=false:=by rfl) (hl:KG f=false:=by rfl):bu P G f args V R:=bn j hf hb m h hk hl
def zp:List Nat->List (Nat×List Nat)
 | []=>[]
 | a::r=>(a,[])::zp r
def rg (a:Nat):Nat->List Nat
 | 0=>[]
 | n+1=>a::rg (a+1) n
end Go.Ev
namespace Go.Ev
variable [Env]
section
variable {P:Program} {G:Cx} {n:Nat} {V:aE} {Q:Ex->PT U->aE->Prop} {os os2:Array Oper} {l l2:List Oper} {lp lp2:List (Nat×List Nat)} {c c2:Code} {t t2:PT U} {K:KP} {L:Own} {hs:List Nat} {cs:List Cd} {e1 e2:List Nat}
theorem Rx {j:Code} {m:Nat} (k:Nat) (h:iN P G n k (.code c) [] t=some (.code c2,[.dF m,.seq j],t2)) (u:Ev P G c2 n t2 V (ic m<|dq P G n j Q)):Ev P G c n t V Q:=(dT (Q:=Q) k h u:)
theorem Sl {j:Code} (k:Nat) (h:iN P G n k (.code c) [] t=some (.code c2,[.seq j],t2)) (m:Ev P G c2 n t2 V (dq P G n j Q)):Ev P G c n t V Q:=(dT (Q:=Q) k h m:)
theorem SV (k:Nat) (h:iN P G n k (.code c) [] t=some (.out .normal,[],t2)) (j:Q .normal t2 V):Ev P G c n t V Q:=(dT (Q:=Q) k h j:)
theorem Sm {j:Code} (k:Nat) (h:iN P G n k (.code c) [] t=some (.ops os2 l2,[.seq j],t2)) (m:bS P G os2 n l2 t2 V (dq P G n j Q)):Ev P G c n t V Q:=(dT (Q:=Q) k h m:)
theorem Ry {j m:Code} (k:Nat) (h:iN P G n k (.code c) [] t=some (.ops os2 l2,[.seq j,.seq m],t2)) (u:bS P G os2 n l2 t2 V (dq P G n j<|dq P G n m Q)):Ev P G c n t V Q:=(dT (Q:=Q) k h u:)
theorem SW (k:Nat) (h:iN P G n k (.code c) [] t=some (.out .ret,[],t2)) (j:Q .ret t2 V):Ev P G c n t V Q:=(dT (Q:=Q) k h j:)
theorem Q7 {j:Code} {m:Code} {u:Nat} (k:Nat) (h:iN P G n k (.code c) [.seq j] t=some (.code c2,[.dF u,.seq m],t2)) (w:Ev P G c2 n t2 V (ic u<|dq P G n m Q)):Ev P G c n t V (dq P G n j Q):=(dT (Q:=Q) k h w:)
theorem Rz {j:Code} {m:Code} (k:Nat) (h:iN P G n k (.code c) [.seq j] t=some (.code c2,[.seq m],t2)) (u:Ev P G c2 n t2 V (dq P G n m Q)):Ev P G c n t V (dq P G n j Q):=(dT (Q:=Q) k h u:)
theorem Qr {j:Code} {m u:Code} {w:Nat} (k:Nat) (h:iN P G n k (.code c) [.seq j] t=some (.code c2,[.seq m,.dF w,.seq u],t2)) (z:Ev P G c2 n t2 V (dq P G n m<|ic w<|dq P G n u Q)):Ev P G c n t V (dq P G n j Q):=(dT (Q:=Q) k h z:)
theorem RB {j:Code} {m:Code} (k:Nat) (h:iN P G n k (.code c) [.seq j] t=some (.ops os2 l2,[.seq m],t2)) (u:bS P G os2 n l2 t2 V (dq P G n m Q)):Ev P G c n t V (dq P G n j Q):=(dT (Q:=Q) k h u:)
theorem Qs {j:Code} {m u:Code} {w:Nat} (k:Nat) (h:iN P G n k (.code c) [.seq j] t=some (.ops os2 l2,[.seq m,.dF w,.seq u],t2)) (z:bS P G os2 n l2 t2 V (dq P G n m<|ic w<|dq P G n u Q)):Ev P G c n t V (dq P G n j Q):=(dT (Q:=Q) k h z:)
theorem Sn {j:Code} (k:Nat) (h:iN P G n k (.code c) [.seq j] t=some (.out .ret,[],t2)) (m:Q .ret t2 V):Ev P G c n t V (dq P G n j Q):=(dT (Q:=Q) k h m:)
theorem RC {m:Code} {u:Nat} {bI1:Nat->PT U->aE->Prop} {j:Nat} (k:Nat) (h:iN P G n k (.code c) [.seq m,.Rv bI1 u] t=some (.out (.exit j),[],t2)) (w:Q (.exit j) t2 V):Ev P G c n t V (dq P G n m<|xR bI1 u Q):=(dT (Q:=Q) k h w:)
theorem SX (k:Nat) (h:iN P G n k (.ops os l) [] t=some (.out .normal,[],t2)) (j:Q .normal t2 V):bS P G os n l t V Q:=(dT (Q:=Q) k h j:)
theorem SY (k:Nat) (h:iN P G n k (.ops os l) [] t=some (.ops os2 l2,[],t2)) (j:bS P G os2 n l2 t2 V Q):bS P G os n l t V Q:=(dT (Q:=Q) k h j:)
theorem So {j:Code} (k:Nat) (h:iN P G n k (.ops os l) [.seq j] t=some (.code c2,[],t2)) (m:Ev P G c2 n t2 V Q):bS P G os n l t V (dq P G n j Q):=(dT (Q:=Q) k h m:)
theorem RD {j:Code} {m:Nat} (k:Nat) (h:iN P G n k (.ops os l) [.seq j] t=some (.code c2,[.dF m],t2)) (u:Ev P G c2 n t2 V (ic m Q)):bS P G os n l t V (dq P G n j Q):=(dT (Q:=Q) k h u:)
theorem Q8 {j:Code} {m:Code} {u:Nat} (k:Nat) (h:iN P G n k (.ops os l) [.seq j] t=some (.code c2,[.dF u,.seq m],t2)) (w:Ev P G c2 n t2 V (ic u<|dq P G n m Q)):bS P G os n l t V (dq P G n j Q):=(dT (Q:=Q) k h w:)
theorem Sp {j:Code} (k:Nat) (h:iN P G n k (.ops os l) [.seq j] t=some (.ops os2 l2,[],t2)) (m:bS P G os2 n l2 t2 V Q):bS P G os n l t V (dq P G n j Q):=(dT (Q:=Q) k h m:)
theorem RE {j:Code} {m:Code} (k:Nat) (h:iN P G n k (.ops os l) [.seq j] t=some (.ops os2 l2,[.seq m],t2)) (u:bS P G os2 n l2 t2 V (dq P G n m Q)):bS P G os n l t V (dq P G n j Q):=(dT (Q:=Q) k h u:)
theorem Q9 {j:Code} {m u:Code} (k:Nat) (h:iN P G n k (.ops os l) [.seq j] t=some (.ops os2 l2,[.seq m,.seq u],t2)) (w:bS P G os2 n l2 t2 V (dq P G n m<|dq P G n u Q)):bS P G os n l t V (dq P G n j Q):=(dT (Q:=Q) k h w:)
theorem Sr {j:Code} (k:Nat) (h:iN P G n k (.ops os l) [.seq j] t=some (.out .ret,[],t2)) (m:Q .ret t2 V):bS P G os n l t V (dq P G n j Q):=(dT (Q:=Q) k h m:)
theorem RF {j:Code} {m:Nat} (k:Nat) (h:iN P G n k (.ops os l) [.seq j,.dF m] t=some (.out .normal,[],t2)) (u:Q .normal t2 V):bS P G os n l t V (dq P G n j<|ic m Q):=(dT (Q:=Q) k h u:)
theorem RG {j m:Code} (k:Nat) (h:iN P G n k (.ops os l) [.seq j,.seq m] t=some (.out .ret,[],t2)) (u:Q .ret t2 V):bS P G os n l t V (dq P G n j<|dq P G n m Q):=(dT (Q:=Q) k h u:)
theorem RH {m u:Code} {j:Nat} (k:Nat) (h:iN P G n k (.ops os l) [.seq m,.seq u] t=some (.out (.exit j),[],t2)) (w:Q (.exit j) t2 V):bS P G os n l t V (dq P G n m<|dq P G n u Q):=(dT (Q:=Q) k h w:)
theorem SZ (k:Nat) (h:iN P G n k (.jQ os lp) [] t=some (.out .normal,[],t2)) (j:Q .normal t2 V):cm P G os n lp t V Q:=(dT (Q:=Q) k h j:)
theorem S0 (k:Nat) (h:iN P G n k (.jQ os lp) [] t=some (.jQ os2 lp2,[],t2)) (j:cm P G os2 n lp2 t2 V Q):cm P G os n lp t V Q:=(dT (Q:=Q) k h j:)
theorem Ss {j:Code} (k:Nat) (h:iN P G n k (.jQ os lp) [.seq j] t=some (.code c2,[],t2)) (m:Ev P G c2 n t2 V Q):cm P G os n lp t V (dq P G n j Q):=(dT (Q:=Q) k h m:)
theorem Su {j:Code} (k:Nat) (h:iN P G n k (.jQ os lp) [.seq j] t=some (.out .ret,[],t2)) (m:Q .ret t2 V):cm P G os n lp t V (dq P G n j Q):=(dT (Q:=Q) k h m:)
theorem RI {j m:Code} (k:Nat) (h:iN P G n k (.jQ os lp) [.seq j,.seq m] t=some (.out .ret,[],t2)) (u:Q .ret t2 V):cm P G os n lp t V (dq P G n j<|dq P G n m Q):=(dT (Q:=Q) k h u:)
theorem S1 (ar:D V K L) (k:Nat) (hi:List Nat) (h:rz P G n L k (.code c) [] t hi [] [] []=some (.ops os2 l2,[],t2,cs,e1,e2)) (he:e1=e2) (j:bS P G os2 n l2 t2 V Q) (hc:kS P cs=true:=by kernel_rfl):Ev P G c n t V Q:=((gV (Q:=Q) ar k h hc he j).2:)
theorem RJ {j m:Code} (ar:D V K L) (k:Nat) (hi:List Nat) (h:rz P G n L k (.code c) [] t hi [] [] []=some (.ops os2 l2,[.seq j,.seq m],t2,cs,e1,e2)) (he:e1=e2) (u:bS P G os2 n l2 t2 V (dq P G n j<|dq P G n m Q)) (hc:kS P cs=true:=by kernel_rfl):Ev P G c n t V Q:=((gV (Q:=Q) ar k h hc he u).2:)
theorem Ra {j:Code} {m:Code} {u:Nat} (ar:D V K L) (k:Nat) (hi:List Nat) (h:rz P G n L k (.code c) [.seq j] t hi [] [] []=some (.ops os2 l2,[.dF u,.seq m],t2,cs,e1,e2)) (he:e1=e2) (w:bS P G os2 n l2 t2 V (ic u<|dq P G n m Q)) (hc:kS P cs=true:=by kernel_rfl):Ev P G c n t V (dq P G n j Q):=((gV (Q:=Q) ar k h hc he w).2:)
theorem RK {j:Code} {m:Code} (ar:D V K L) (k:Nat) (hi:List Nat) (h:rz P G n L k (.code c) [.seq j] t hi [] [] []=some (.ops os2 l2,[.seq m],t2,cs,e1,e2)) (he:e1=e2) (u:bS P G os2 n l2 t2 V (dq P G n m Q)) (hc:kS P cs=true:=by kernel_rfl):Ev P G c n t V (dq P G n j Q):=((gV (Q:=Q) ar k h hc he u).2:)
theorem Qt {j:Code} {m u:Code} {w:Nat} (ar:D V K L) (k:Nat) (hi:List Nat) (h:rz P G n L k (.code c) [.seq j] t hi [] [] []=some (.ops os2 l2,[.seq m,.dF w,.seq u],t2,cs,e1,e2)) (he:e1=e2) (z:bS P G os2 n l2 t2 V (dq P G n m<|ic w<|dq P G n u Q)) (hc:kS P cs=true:=by kernel_rfl):Ev P G c n t V (dq P G n j Q):=((gV (Q:=Q) ar k h hc he z).2:)
theorem Sv {j:Code} (ar:D V K L) (k:Nat) (hi:List Nat) (h:rz P G n L k (.code c) [.seq j] t hi [] [] []=some (.out .ret,[],t2,cs,e1,e2)) (he:e1=e2) (m:Q .ret t2 V) (hc:kS P cs=true:=by kernel_rfl):Ev P G c n t V (dq P G n j Q):=((gV (Q:=Q) ar k h hc he m).2:)
theorem S2 (ar:D V K L) (k:Nat) (hi:List Nat) (h:rz P G n L k (.ops os l) [] t hi [] [] []=some (.ops os2 l2,[],t2,cs,e1,e2)) (he:e1=e2) (j:bS P G os2 n l2 t2 V Q) (hc:kS P cs=true:=by kernel_rfl):bS P G os n l t V Q:=((gV (Q:=Q) ar k h hc he j).2:)
theorem Sw {j:Code} (ar:D V K L) (k:Nat) (hi:List Nat) (h:rz P G n L k (.ops os l) [.seq j] t hi [] [] []=some (.code c2,[],t2,cs,e1,e2)) (he:e1=e2) (m:Ev P G c2 n t2 V Q) (hc:kS P cs=true:=by kernel_rfl):bS P G os n l t V (dq P G n j Q):=((gV (Q:=Q) ar k h hc he m).2:)
theorem RM {j:Code} {m:Code} (ar:D V K L) (k:Nat) (hi:List Nat) (h:rz P G n L k (.ops os l) [.seq j] t hi [] [] []=some (.ops os2 l2,[.seq m],t2,cs,e1,e2)) (he:e1=e2) (u:bS P G os2 n l2 t2 V (dq P G n m Q)) (hc:kS P cs=true:=by kernel_rfl):bS P G os n l t V (dq P G n j Q):=((gV (Q:=Q) ar k h hc he u).2:)
theorem Rb {j:Code} {m u:Code} (ar:D V K L) (k:Nat) (hi:List Nat) (h:rz P G n L k (.ops os l) [.seq j] t hi [] [] []=some (.ops os2 l2,[.seq m,.seq u],t2,cs,e1,e2)) (he:e1=e2) (w:bS P G os2 n l2 t2 V (dq P G n m<|dq P G n u Q)) (hc:kS P cs=true:=by kernel_rfl):bS P G os n l t V (dq P G n j Q):=((gV (Q:=Q) ar k h hc he w).2:)
theorem Sx {j:Code} (ar:D V K L) (k:Nat) (hi:List Nat) (h:rz P G n L k (.ops os l) [.seq j] t hi [] [] []=some (.out .ret,[],t2,cs,e1,e2)) (he:e1=e2) (m:Q .ret t2 V) (hc:kS P cs=true:=by kernel_rfl):bS P G os n l t V (dq P G n j Q):=((gV (Q:=Q) ar k h hc he m).2:)
theorem S3 (ar:D V K L) (k:Nat) (hi:List Nat) (h:rz P G n L k (.jQ os lp) [] t hi [] [] []=some (.jQ os2 lp2,[],t2,cs,e1,e2)) (he:e1=e2) (j:cm P G os2 n lp2 t2 V Q) (hc:kS P cs=true:=by kernel_rfl):cm P G os n lp t V Q:=((gV (Q:=Q) ar k h hc he j).2:)
end
inductive XE where
 | mk (op num:Int) (name:List Nat) (kids:List XE)
structure XI where
 kind:Int
 qY:Int
 loc:Int
 order:Int
 to:Int
 exprs:List XE
structure XC where
 br:Int
 ins:List XI
def eH (K:KP):Nat->XE->List U->Prop
 | 0,_,_=>False
 | k+1,.mk op num name kids,vs=>∃v,vs= [.int .i64 op,.int .i64 num,.str name,v]/\bL K 4 (eH K k) kids v
def j0 (K:KP) (k:Nat) (x:XI) (vs:List U):Prop:=∃v,vs= [.int .i64 x.kind,.int .i64 x.qY,.int .i64 x.loc,.int .i64 x.order,.int .i64 x.to,v]/\bL K 4 (eH K k) x.exprs v
def lW (K:KP) (k:Nat) (x:XC) (vs:List U):Prop:=∃v,vs= [.int .i64 x.br,v]/\bL K 6 (j0 K k) x.ins v
def XE.kids:XE->List XE
 | .mk _ _ _ k=>k
theorem eH.shape {K:KP} {k:Nat} {x:XE} {vs:List U} (h:eH K k x vs):∃op num name v,vs= [.int .i64 op,.int .i64 num,.str name,v]/\bL K 4 (eH K (k-1)) x.kids v:=by
 cases k with
 | zero=>cases x;exact h.elim
 | succ k=>
  obtain⟨op,num,name,kids⟩:=x;obtain⟨v,rfl,hk⟩:=h;exact⟨_,_,_,v,Z,hk⟩
open Classical in
def bQ {α:Type} (a b:α):Bool:=decide (a=b)
theorem cz {α:Type} {a b:α}:bQ a b=true↔a=b:=by unfold bQ;simp
theorem iW {α:Type} {a b:α}:bQ a b=false↔a≠b:=by unfold bQ;simp
theorem bW {c:Bool} (h:(bif c then false else true)=true):c=false:=by cases c<;>simp_all
theorem bK {c:Bool} (h:(bif c then false else true)=false):c=true:=by cases c<;>simp_all
theorem wC {j m u w:Int} {z A:List Nat} {B C:List XE}:bQ (XE.mk j m z B) (XE.mk u w A C)=(H j u && (H m w && (gK z A && bQ B C))):=by
 rw[cW,cW,lk,Bool.eq_iff_iff,cz];simp[cz]
theorem rh {a b:XI}:bQ a b=(H a.kind b.kind && (H a.qY b.qY && (H a.loc b.loc && (H a.order b.order && (H a.to b.to && bQ a.exprs b.exprs))))):=by
 rw[cW,cW,cW,cW,cW,Bool.eq_iff_iff,cz];cases a;cases b;simp[cz]
theorem G1 {a b:XC}:bQ a b=(H a.br b.br && bQ a.ins b.ins):=by
 rw[cW,Bool.eq_iff_iff,cz];cases a;cases b;simp[cz]
theorem eE {α:Type} {l1 l2:List α} (h:H (.ofNat l1.length) (.ofNat l2.length)=false):bQ l1 l2=false:=by
 rw[iW];rintro rfl;rw[cW] at h;simp at h
theorem dC {α β:Type} {l1:List α} {l2:List β} (h:H (.ofNat l1.length) (.ofNat l2.length)=true):l1.length=l2.length:=by
 rw[cW] at h
 grind
theorem eR {α:Type} {l1 l2:List α} {i:Nat} {x y:α} (hx:l1[i]?=some x) (hy:l2[i]?=some y) (h:bQ x y=false):bQ l1 l2=false:=by
 rw[iW] at h⊢
 grind
theorem dS {α:Type} {l1 l2:List α} {i:Nat} (hl:l1.length=l2.length) (hi:l1.length<=i) (h:∀k,k<i->l1[k]?=l2[k]?):bQ l1 l2=true:=by
 rw[cz];refine List.ext_getElem? fun k=>?_
 grind
theorem iC {α:Type} {l1 l2:List α} {i:Nat} {x y:α} (h:∀k,k<i->l1[k]?=l2[k]?) (hx:l1[i]?=some x) (hy:l2[i]?=some y) (hs:bQ x y=true):∀k,k<i+1->l1[k]?=l2[k]?:=fun k hk=>by
 grind [cz]
theorem bA {a b:Nat} (h:b9 (.ofNat a) (.ofNat b)=false):b<=a:=by
 grind [fm]
theorem bc {a b:Nat} (h:b9 (.ofNat a) (.ofNat b)=true):a<b:=by
 rw[fm,decide_eq_true_iff] at h
 simp_all
theorem cL {α:Type} {l:List α} {i:Nat} (h:i<l.length):∃x,l[i]?=some x:=⟨l[i],gC h⟩
def mZ (f:XE->Int->Int):List XE->Int->Int
 | [],m=>m
 | x::r,m=>bif b9 m 0 then m else mZ f r (f x m)
def Cz (name:List Nat) (left:Int):Int:=wr .i64 (Int.sub (wr .i64<|Int.sub left 1)<|wr .i64<|Int.tdiv (.ofNat<|du name) 20)
def rM:Nat->XE->Int->Int
 | 0,_,m=>m
 | k+1,.mk _ _ name kids,m=>mZ (rM k) kids (Cz name m)
def xO (k:Nat) (x:XE) (most:Int):Bool:=bif b9 (rM k x most) 0 then false else true
def sv (k:Nat) (x:XI):Bool:=bif b9 4 (.ofNat x.exprs.length) then false else x.exprs.all fun e=>xO k e 60
def pW (k:Nat) (most:Int) (x:XC):Bool:=bif b9 most (.ofNat x.ins.length) then false else x.ins.all (sv k)
def qP (k:Nat) (most:Int) (l:List XC):Bool:=(l.take 6).all (pW k most) && (bif b9 6 (.ofNat l.length) then false else true)
theorem HY {f:XE->Int->Int} {l:List XE} {i:Nat} {m:Int} (h:l.length<=i):mZ f (l.drop i) m=m:=by rw[List.drop_eq_nil_of_le h];rfl
theorem HX {f:XE->Int->Int} {l:List XE} {m:Int} (h:b9 m 0=true):mZ f l m=m:=by
 cases l with
 | nil=>rfl
 | cons x r=>show(bif b9 m 0 then m else _)=m;rw[h];rfl
theorem EW {f:XE->Int->Int} {l:List XE} {i:Nat} {m:Int} {x:XE} (hx:l[i]?=some x) (h:b9 m 0=false):mZ f (l.drop i) m=mZ f (l.drop (i+1)) (f x m):=by
 have j:i<l.length:=(gA.1 hx).1;rw[List.drop_eq_getElem_cons j];have:l[i]=x:=(gA.1 hx).2;rw[this];show(bif b9 m 0 then m else _)=_;rw[h];rfl
theorem lg {α:Type} {f:α->Bool} {l:List α} {i:Nat} {x:α} (hx:l[i]?=some x) (h:f x=false):l.all f=false:=by
 grind
theorem MI {α:Type} {f:α->Bool} {l:List α} {i n:Nat} {x:α} (hx:l[i]?=some x) (hi:i<n) (h:f x=false):(l.take n).all f=false:=lg (i:=i) (by simp_all) h
theorem iO {α:Type} {f:α->Bool} {l:List α} {i:Nat} {x:α} (j:(l.take i).all f=true) (hx:l[i]?=some x) (h:f x=true):(l.take (i+1)).all f=true:=by
 rw[List.take_add_one,hx,List.all_append,j];simp[h]
theorem iq {α:Type} {f:α->Bool} {l:List α} {i:Nat} (j:(l.take i).all f=true) (h:l.length<=i):l.all f=true:=by
 rw[tL_ h] at j;exact j
theorem BN {α:Type} {f:α->Bool} {l:List α} {i n:Nat} (m:(l.take i).all f=true) (h:n<=i):(l.take n).all f=true:=by
 rw[aE_] at m⊢
 exact fun x hx=>m x (by
  obtain⟨j,hj⟩:=gO_ hx;rw[List.getElem?_take] at hj;split at hj
  ·exact gB_ (i:=j) (by grind)
  cases hj)
theorem eH.beq {K:KP} {k:Nat} {x:XE} {vs:List U} (h:eH K k x vs):eh (.agg vs) (.agg vs)=true:=by
 cases k with
 | zero=>cases x;exact h.elim
 | succ k=>
  obtain⟨op,num,name,kids⟩:=x;obtain⟨v,rfl,hk⟩:=h;exact iP<|cR (fq _ _)<|cR (fq _ _)<|cR (sT _)<|cR hk.lh gM
theorem j0.beq {K:KP} {k:Nat} {x:XI} {vs:List U} (h:j0 K k x vs):eh (.agg vs) (.agg vs)=true:=by
 obtain⟨v,rfl,hk⟩:=h;exact iP<|cR (fq _ _)<|cR (fq _ _)<|cR (fq _ _)<|cR (fq _ _)<|cR (fq _ _)<|cR hk.lh gM
theorem lW.beq {K:KP} {k:Nat} {x:XC} {vs:List U} (h:lW K k x vs):eh (.agg vs) (.agg vs)=true:=by
 obtain⟨v,rfl,hk⟩:=h;exact iP<|cR (fq _ _)<|cR hk.lh gM
theorem cK {α:Type} {l:List α} {i:Nat} (h:b9 (.ofNat i) (.ofNat l.length)=true):∃x,l[i]?=some x/\i<l.length:=by
 rw[fm,decide_eq_true_iff] at h
 simp_all
end Go.Ev
namespace Go.Ev
variable [Env]
def eu (n:Int) (vs:List U):Prop:=vs= [.int .i64 n]
def RL {α:Type} (K:KP) (m:Nat) (R:α->List U->Prop) (l:List α) (vs:List U):Prop:=∃v,vs= [v]/\bL K m R l v
theorem s5 {a b:Int}:H a b=bQ a b:=by rw[cW,Bool.eq_iff_iff,decide_eq_true_iff,cz]
theorem wO {α:Type} {f:α->Bool} {l:List α} {i:Nat} {x:α} (j:(l.take i).any f=false) (hx:l[i]?=some x) (h:f x=false):(l.take (i+1)).any f=false:=by
 rw[List.take_add_one,hx,List.any_append,j];simp[h]
theorem Eg {α:Type} {f:α->Bool} {l:List α} {i:Nat} {x:α} (hx:l[i]?=some x) (h:f x=true):l.any f=true:=by
 grind
theorem lC {α:Type} {f:α->Bool} {l:List α} {i:Nat} (j:(l.take i).any f=false) (h:l.length<=i):l.any f=false:=by
 rw[tL_ h] at j;exact j
def EH (xs ys:List Int):Bool:=
 List.rec (motive:=fun _=>List Int->Bool) (fun ys=>List.rec (motive:=fun _=>Bool) true (fun _ _ _=>false) ys)
  (fun x _ ih ys=>List.rec (motive:=fun _=>Bool) false (fun y r _=>bif H x y then ih r else false) ys) xs ys
theorem Gi:∀(xs ys:List Int),EH xs ys=bQ xs ys
 | [],[]=>by rw[show EH [] []=true from Z,eq_comm,cz]
 | [],_::_=>by rw[show EH [] (_::_)=false from Z,eq_comm,iW];simp
 | _::_,[]=>by rw[show EH (_::_) []=false from Z,eq_comm,iW];simp
 | x::xs,y::ys=>by
  show(bif H x y then EH xs ys else false)=_;rw[Gi xs ys,cW,Bool.eq_iff_iff,cz]
  grind [cz]
def ints (xs:List Int):List U:=xs.map (.int .i64)
def Kv:Option TypeDesc->Bool
 | some (.int .i64)=>true
 | _=>false
def uy (P:Program) (fs:List Field):Nat->Bool:=List.rec (motive:=fun _=>Nat->Bool) (fun _=>true) (fun f _ ih k=>Kv (P.underlying f.type) && (Nat.beq f.offset k && ih (k+1))) fs
def jz (P:Program) (t:TypeId) (n:Nat):Bool:=
 match structOf P t with
 | some fs=>uy P fs.toList 0 && (Nat.beq fs.toList.length n && (!P.eqGuardType P.depth t && (!P.stoodInHeld t && lI fs.toList)))
 | none=>false
theorem rI {P:Program}:∀(fs:List Field) (k:Nat) (xs ys:List Int),uy P fs k=true->xs.length=k+fs.length->ys.length=k+fs.length->eqFields P fs (ints xs) (ints ys)=some (EH (xs.drop k)<|ys.drop k)
 | [],k,xs,ys,_,h1,u=>by
  rw[List.drop_eq_nil_of_le (by simp at h1;omega),List.drop_eq_nil_of_le (by simp at u;omega)];rfl
 | f::fs,k,xs,ys,h,h1,u=>by
  have h':(Kv (P.underlying f.type) && (Nat.beq f.offset k && uy P fs (k+1)))=true:=h;simp only[bA_] at h';obtain⟨e1,w,z⟩:=h';have hk:f.offset=k:=nB w
  have hu:P.underlying f.type=some (.int .i64):=by
   grind [Kv]
  have l1:k<xs.length:=by simp at h1;omega
  have l2:k<ys.length:=by simp at u;omega
  have A:nth (ints xs) f.offset=some (.int .i64 xs[k]):=by grind [fG,ints]
  have B:nth (ints ys) f.offset=some (.int .i64 ys[k]):=by grind [fG,ints]
  have ih:=rI fs (k+1) xs ys z (by simp at h1⊢;omega) (by simp at u⊢;omega)
  show(match P.underlying f.type,nth (ints xs) f.offset,nth (ints ys) f.offset with
   | some .bool,some (.bool a),some (.bool b)=>bif (bif a then b else(bif b then false else true)) then eqFields P fs (ints xs) (ints ys) else some false
   | some (.int _),some (.int j a),some (.int k b)=>bif s6 j k then(bif H a b then eqFields P fs (ints xs) (ints ys) else some false) else none
   | some .string,some (.str a),some (.str b)=>bif gK a b then eqFields P fs (ints xs) (ints ys) else some false
   | some (.struct gs),_,_=>_
   | some (.array m e),_,_=>_
   | _,_,_=>none)=_
  rw[hu,A,B,List.drop_eq_getElem_cons l1,List.drop_eq_getElem_cons l2,ih];show(bif H xs[k] ys[k] then _ else some false)=some (bif H xs[k] ys[k] then EH (xs.drop (k+1)) (ys.drop (k+1)) else false)
  grind
theorem xg {P:Program} {t:TypeId} {n:Nat} {xs ys:List Int} (h:jz P t n=true) (hx:xs.length=n) (hy:ys.length=n):EG P t (.agg<|ints xs) (.agg<|ints ys)=some (bQ xs ys):=by
 unfold jz at h;split at h
 ·rename_i fs j;simp only[bA_,Bool.not_eq_true'] at h;obtain⟨h1,m,u,h4,h5⟩:=h;have hn:fs.toList.length=n:=nB m;unfold EG;dsimp only;rw[j];dsimp only;rw[u,h4,h5];simp only[Bool.not_true,Bool.or_false,cond_false];rw[rI fs.toList 0 xs ys h1 oM oM,List.drop_zero,List.drop_zero,Gi]
 cases h
section
variable {P:Program} {G:Cx} {ev:Operand->Option U} {V:aE}
theorem Aa {t r:TypeId} {x y:Operand} {n:Nat} {ca cb:List Int} (h:jz P t n=true) (j:ca.length=n) (hb:cb.length=n) (hx:ev x=some (.agg<|ints ca)) (m:ev y=some (.agg<|ints cb)):ey P G ev V (.binOp .eql t x y r)= .val (.bool<|bQ ca cb) V:=by
 refine ax hx m ?_;show mW P .eql t _ _=_;unfold mW;dsimp only;rw[xg h j hb]
theorem DN {t r:TypeId} {x y:Operand} {n:Nat} {ca cb:List Int} (h:jz P t n=true) (j:ca.length=n) (hb:cb.length=n) (hx:ev x=some (.agg<|ints ca)) (m:ev y=some (.agg<|ints cb)):ey P G ev V (.binOp .neq t x y r)= .val (.bool (bif bQ ca cb then false else true)) V:=by
 refine ax hx m ?_;show mW P .neq t _ _=_;unfold mW;dsimp only;rw[xg h j hb]
end
structure cY where
 cy:Int
 index:Int
structure db where
 kind:Int
 loc:Int
 order:Int
 read:Int
 write:Int
structure XG where
 init:List Int
 threads:List (List db)
 from_:List (List cY)
 order:List (List cY)
def cY.ints (x:cY):List Int:=[x.cy,x.index]
def db.ints (x:db):List Int:=[x.kind,x.loc,x.order,x.read,x.write]
theorem cY.same {x y:cY}:bQ x.ints y.ints=bQ x y:=by
 rw[Bool.eq_iff_iff,cz,cz];cases x;cases y;simp[cY.ints]
theorem db.same {x y:db}:bQ x.ints y.ints=bQ x y:=by
 rw[Bool.eq_iff_iff,cz,cz];cases x;cases y;simp[db.ints]
def nH (x:cY) (vs:List U):Prop:=vs=ints x.ints
def mJ (x:db) (vs:List U):Prop:=vs=ints x.ints
structure gY (K:KP) (g:XG) (a b c d:U):Prop where
 init:bL K 1 eu g.init a
 threads:bL K 1 (RL K 5 mJ) g.threads b
 from_:bL K 1 (RL K 2 nH) g.from_ c
 order:bL K 1 (RL K 2 nH) g.order d
theorem m9 {a b:XG}:bQ a b=(bQ a.init b.init && (bQ a.threads b.threads && (bQ a.from_ b.from_ && bQ a.order b.order))):=by
 rw[Bool.eq_iff_iff,cz];cases a;cases b;simp[cz]
def cN (e:db):Bool:=bif H e.kind 1 then true else H e.kind 3
def bI (e:db):Bool:=bif H e.kind 2 then true else H e.kind 3
def bh (b:Bool):Bool:=bif b then false else true
def bX (e:db) (n:Int):Bool:=
 bif b9 e.kind 1 then false else bif b9 4 e.kind then false else bif b9 e.order 1 then false else bif b9 6 e.order then false else
 bif (bif (!cN e) then bh (H e.read 0) else false) then false else bif (bif (!bI e) then bh (H e.write 0) else false) then false else
 bif H e.kind 4 then H e.loc 0 else bif bh (b9 e.loc 0) then b9 e.loc n else false
def dn (g:XG) (id:cY):Option db:=
 match id.cy,id.index with
 | .ofNat 0,.ofNat i=>(g.init[i]?).map fun v=>⟨2,i,1,0,v⟩
 | .ofNat (t+1),.ofNat i=>(g.threads[t]?).bind (·[i]?)
 | _,_=>none
def mK (x:Option db):db:=x.getD ⟨0,0,0,0,0⟩
theorem uu {g:XG} {th ix:Int} (h:b9 th 0=true):dn g ⟨th,ix⟩=none:=by
 rw[fm,decide_eq_true_iff] at h;cases th with
 | ofNat t=>grind
 | negSucc t=>rfl
theorem qI {g:XG} {th ix:Int} (h:b9 ix 0=true):dn g ⟨th,ix⟩=none:=by
 rw[fm,decide_eq_true_iff] at h;cases ix with
 | ofNat t=>grind
 | negSucc t=>cases th with
  | ofNat n=>cases n<;>rfl
  | negSucc n=>rfl
theorem Cl {g:XG} {th ix:Int} (h:b9 (.ofNat g.threads.length) th=true):dn g ⟨th,ix⟩=none:=by
 rw[fm,decide_eq_true_iff] at h;cases th with
 | negSucc t=>rfl
 | ofNat t=>
  have h:g.threads.length<t:=Int.ofNat_lt.1 h;cases t with
  | zero=>omega
  | succ t=>
   cases ix with
   | negSucc n=>rfl
   | ofNat n=>
    show(g.threads[t]?).bind _=none
    grind
theorem kA {n:Int} (h:b9 n 0=false):∃m:Nat,n= .ofNat m:=by
 rw[fm,decide_eq_false_iff_not] at h;cases n with
 | ofNat m=>exact⟨m,Z⟩
 | negSucc m=>omega
theorem G5 {n:Nat} (h:H (.ofNat n) 0=false):∃m:Nat,n=m+1:=by
 cases n with
 | zero=>cases h
 | succ m=>exact⟨m,Z⟩
theorem gW {t:Nat} (h:t<=9223372036854775807):wr .i64 (Int.sub (.ofNat (t+1)) 1)= .ofNat t:=by
 have e:Int.sub (.ofNat (t+1)) 1= .ofNat t:=by
  grind
 rw[e];show(bif Nat.ble t 9223372036854775807 then _ else _)=_
 grind [nE_]
theorem nQ {a b:Nat} (h:b9 (.ofNat a) (.ofNat b)=false):b<=a:=bA h
theorem pZ {a b:Nat} (h:(bif b9 (.ofNat a) (.ofNat b) then false else true)=false):a<b:=bc (bK h)
theorem pO {a b:Nat} (h:(bif b9 (.ofNat a) (.ofNat b) then false else true)=true):b<=a:=bA (bW h)
section
variable {P:Program} {G:Cx} {n:Nat} {t:PT U} {V:aE} {Q:Ex->PT U->aE->Prop}
theorem tF {fn:Func} {j k ty b m e:Nat} {ro:Bool} {cells:List U} {v:U} (w:fn.results.toList= [.cell j ty,.tmp k]) (h1:t.get j=some (.ptr b 0)) (hm:V.m.get b=some (.row cells e ro)) (z:dZ P ty=some (some m)) (u:cells.length=m) (A:t.get k=some v):eG P fn t V=some (.tuple [.agg cells,v]):=by
 unfold eG;rw[w]
 have e1:gE P t V (.cell j ty)=some (U.agg cells):=by
  show(match t.get (posOf j) with
   | some (.ptr b off)=>match V.m.get b with
    | some (.row cells _ _)=>match dZ P ty with
     | some (some n)=>bif Nat.ble (off+n) (du cells) then some (U.agg<|takeN (dW cells off) n) else none
     | some none=>nth cells off
     | none=>none
    | _=>none
   | _=>none)=_
  rw[show t.get (posOf j)=some (.ptr b 0) from h1];dsimp only;rw[hm];dsimp only;rw[z];dsimp only;rw[bY,u,nA_,show Nat.ble m m=true by simp_all,dR,eA,List.drop_zero,<-u,List.take_length];rfl
 have B:gE P t V (.tmp k)=some v:=A
 have:dB (gE P t V) [.cell j ty,.tmp k]=some [U.agg cells,v]:=by
  unfold dB;simp only[e1,B]
 rw[this]
theorem cA {fn:Func} {R:U->aE->Prop} {j k ty b m e:Nat} {ro:Bool} {cells:List U} {v:U} (u:fn.results.toList= [.cell j ty,.tmp k]) (h1:t.get j=some (.ptr b 0)) (hm:V.m.get b=some (.row cells e ro)) (w:dZ P ty=some (some m)) (z:cells.length=m) (A:t.get k=some v) (B:R (.tuple [.agg cells,v]) V):EF P fn R .ret t V:=
 ⟨.inr Z,_,tF u h1 hm w z A,B⟩
end
end Go.Ev
namespace Go.Ev
variable [Env]
def de (g:XG) (id from_:cY):Bool:=
 bif !cN (mK<|dn g id) then bQ [from_.cy,from_.index] [0,0] else
 bif (dn g from_).isSome then
  bif (bif bQ [from_.cy,from_.index] [id.cy,id.index] then false else true) then
   bif bI (mK<|dn g from_) then
    bif H (mK<|dn g from_).loc (mK<|dn g id).loc then H (mK<|dn g from_).write (mK<|dn g id).read else false
   else false
  else false
 else false
def eU (g:XG):Bool:=bif b9 4 (.ofNat g.threads.length) then true else bif b9 6 (.ofNat g.init.length) then true else g.threads.any fun l=>b9 14 (.ofNat l.length)
abbrev LM:=List (List Int×Int)
inductive fj (n:Nat):List fw->LM->Prop
 | nil:fj n [] []
 | cons {e:fw} {k:List Int} {v:Int} {es:List fw} {m:LM}:k.length=n->e.key= .agg (ints k)->e.val= .int .i64 v->fj n es m->fj n (e::es) ((k,v)::m)
def pX:LM->List Int->Nat->Option (Nat×Int)
 | [],_,_=>none
 | (k',v)::m,k,i=>bif bQ k k' then some (i,v) else pX m k (i+1)
def fK (m:LM) (k:List Int):Option Int:=(pX m k 0).map (·.2)
def pY (m:LM) (k:List Int) (v:Int):LM:=
 match pX m k 0 with
 | some (i,_)=>m.set i (k,v)
 | none=>m++[(k,v)]
def lu (m:LM) (k:List Int):LM:=
 match pX m k 0 with
 | some (i,_)=>m.eraseIdx i
 | none=>m
theorem fj.length {n:Nat} {es:List fw} {m:LM} (h:fj n es m):es.length=m.length:=by
 induction h with
 | nil=>rfl
 | cons _ _ _ _ ih=>simp[ih]
theorem fj.set {n:Nat} {es:List fw} {m:LM} (h:fj n es m) {e:fw} {k:List Int} {v:Int} (h1:k.length=n) (j:e.key= .agg (ints k)) (u:e.val= .int .i64 v):∀i,fj n (es.set i e) (m.set i (k,v)):=by
 induction h with
 | nil=>intro i;exact .nil
 | cons a b c d ih=>
  intro i;cases i with
  | zero=>exact .cons h1 j u d
  | succ i=>exact .cons a b c (ih i)
theorem fj.snoc {n:Nat} {es:List fw} {m:LM} (h:fj n es m) {e:fw} {k:List Int} {v:Int} (h1:k.length=n) (j:e.key= .agg (ints k)) (u:e.val= .int .i64 v):fj n (es++[e]) (m++[(k,v)]):=by
 induction h with
 | nil=>exact .cons h1 j u .nil
 | cons a b c d ih=>exact .cons a b c ih
theorem fj.erase {n:Nat} {es:List fw} {m:LM} (h:fj n es m):∀i,fj n (es.eraseIdx i) (m.eraseIdx i):=by
 induction h with
 | nil=>intro i;exact .nil
 | cons a b c d ih=>
  intro i;cases i with
  | zero=>exact d
  | succ i=>exact .cons a b c (ih i)
theorem fj.at {n:Nat} {es:List fw} {m:LM} (h:fj n es m):∀{i:Nat} {k:List Int} {v:Int},m[i]?=some (k,v)->∃e,es[i]?=some e/\k.length=n/\e.key= .agg (ints k):=by
 induction h with
 | nil=>simp_all
 | cons a b c d ih=>
  grind
theorem xe:∀(es:List fw) (i:Nat),xd es i=es.eraseIdx i
 | [],_=>rfl
 | _::_,0=>rfl
 | e::es,i+1=>by
  show e::xd es i=e::es.eraseIdx i;rw[xe es i]
theorem qQ:∀{m:LM} {k:List Int} {i j:Nat} {v:Int},pX m k i=some (j,v)->i<=j/\m[j-i]?=some (k,v)
 | [],k,i,j,v,h=>by cases h
 | (k',v')::m,k,i,j,v,h=>by
  have h':(bif bQ k k' then some (i,v') else pX m k (i+1))=some (j,v):=h;cases u:bQ k k' with
  | true=>
   grind [cz]
  | false=>
   rw[u] at h';obtain⟨h1,h2⟩:=qQ h'
   grind
theorem rF:∀(xs:List Int),pE (ints xs) (ints xs)=true
 | []=>rfl
 | x::xs=>by
  have e:sr (.int .i64 x) (.int .i64 x)=some true:=by
   show(bif s6 .i64 .i64 then some (H x x) else none)=some true;rw[cW];simp[s6]
  show(match sr (.int .i64 x) (.int .i64 x) with | some true=>pE (ints xs) (ints xs) | _=>false)=true;rw[e];exact rF xs
section
variable {P:Program}
theorem xp {t:TypeId} {fs:Array Field} {n:Nat} (hu:P.underlying t=some (.struct fs)) (j:jz P t n=true) {k:List Int} (hk:k.length=n) {es:List fw} {m:LM} (h:fj n es m):∀i,pg P t (.agg<|ints k) es i=some ((pX m k i).map fun x=>(x.1,.int .i64 x.2)):=by
 induction h with
 | nil=>intro i;rfl
 | @cons e k' v es m a b c d ih=>
  intro i
  have hq:pj P t (.agg<|ints k) e.key=some (bQ k k'):=by
   unfold pj;rw[hu,b];exact xg j hk a
  show(match pj P t (.agg<|ints k) e.key with
   | some true=>some (some (i,e.val))
   | some false=>pg P t (.agg<|ints k) es (i+1)
   | none=>none)=some (Option.map _ (bif bQ k k' then some (i,v) else pX m k (i+1)))
  grind
structure DW (P:Program) (t kt et:TypeId) (n:Nat):Prop where
 ty:P.underlying t=some (.map kt et)
 plain:plainKey P kt=true
 ints:jz P kt n=true
 zero:fl P et=some (.int .i64 0)
 shape:∀k:List Int,k.length=n->mj P kt (.agg<|Go.Ev.ints k)=true
theorem lq {t:TypeId} {n:Nat} (h:jz P t n=true):∃fs,P.underlying t=some (.struct fs):=by
 grind [jz,structOf,oj]
variable {G:Cx} {ev:Operand->Option U} {V:aE}
theorem Mo {t kt et:TypeId} {n:Nat} (hT:DW P t kt et n) {b:Nat} {es:List fw} {ck:Nat} {m:LM} (hm:fj n es m) (hb:V.m.get b=some (.map es ck)) {mo ko xo:Operand} {k:List Int} {v:Int} (hk:k.length=n) (h1:ev mo=some (.map b)) (u:ev ko=some (.agg<|ints k)) (w:ev xo=some (.int .i64 v)):
  ∃es' ck',ey P G ev V (.mapUpdate t mo ko xo)= .skip (V.setObj b (.map es' ck'))/\fj n es' (pY m k v):=by
 obtain⟨fs,hu⟩:=lq hT.ints;have hf:=xp hu hT.ints hk hm 0
 have key:∃es' ck',nc P V t (.map b) (.agg<|ints k) (.int .i64 v)=some (V.setObj b (.map es' ck'))/\fj n es' (pY m k v):=by
  unfold nc pY;rw[hT.ty];dsimp only;rw[hb];dsimp only;rw[hT.plain,hT.shape k hk];simp only[Bool.and_self,cond_true];rw[hf];cases hl:pX m k 0 with
  | none=>exact⟨_,_,Z,by rw[eb];exact hm.snoc hk Z Z⟩
  | some x=>
   obtain⟨i,v0⟩:=x;have hi:=(qQ hl).2;rw[Nat.sub_zero] at hi;obtain⟨e,he,_,j⟩:=hm.at hi;simp only[Option.map_some];rw[fG,he];dsimp only;have z:sameKey e.key (.agg<|ints k)=true:=by rw[j];exact rF k
   rw[z];exact⟨_,_,Z,by unfold Bf;rw[uV];exact hm.set (e:={key:=.agg<|ints k,val:=.int .i64 v,born:=e.born}) hk Z Z i⟩
 obtain⟨es',ck',h4,h5⟩:=key;refine⟨es',ck',rm Z ?_,h5⟩;simp only[ig,h1,u,w,h4]
theorem Mn {t kt et:TypeId} {n:Nat} (hT:DW P t kt et n) {b:Nat} {es:List fw} {ck:Nat} {m:LM} (hm:fj n es m) (hb:V.m.get b=some (.map es ck)) {mo ko:Operand} {k:List Int} (hk:k.length=n) (h1:ev mo=some (.map b)) (j:ev ko=some (.agg<|ints k)):
  ey P G ev V (.lookup t mo ko true)= .val (.tuple [.int .i64 ((fK m k).getD 0),.bool (fK m k).isSome]) V:=by
 obtain⟨fs,hu⟩:=lq hT.ints;have hf:=xp hu hT.ints hk hm 0;refine BC Z ?_;simp only[gq,hT.ty,j,h1,hb,hT.plain,hT.shape k hk,Bool.and_self,cond_true,hf,hT.zero];unfold fK;cases pX m k 0 with
 | none=>rfl
 | some x=>rfl
theorem Ml {c:Call} {t kt et:TypeId} {n:Nat} (hT:DW P t kt et n) {b:Nat} {es:List fw} {ck:Nat} {m:LM} (hm:fj n es m) (hb:V.m.get b=some (.map es ck)) {mo ko:Operand} {k:List Int} (hk:k.length=n) (hc:c.callee= .builtin .delete) (j:c.argTypes[0]?=some t) (u:c.args.toList= [mo,ko]) (h1:ev mo=some (.map b)) (w:ev ko=some (.agg<|ints k)):
  ∃es',ey P G ev V (.call c)= .val (.tuple []) (V.setObj b (.map es' ck))/\fj n es' (lu m k):=by
 obtain⟨fs,hu⟩:=lq hT.ints;have hf:=xp hu hT.ints hk hm 0
 have key:∃es',qG P V c.argTypes (.map b) (.agg<|ints k)=some (V.setObj b (.map es' ck))/\fj n es' (lu m k):=by
  unfold qG lu;rw[j];dsimp only;rw[hT.ty];dsimp only;rw[hb];dsimp only;rw[hT.plain,hT.shape k hk];simp only[Bool.and_self,cond_true];rw[hf];cases hl:pX m k 0 with
  | none=>grind
  | some x=>
   obtain⟨i,v0⟩:=x;exact⟨_,Z,by rw[xe];exact hm.erase i⟩
 obtain⟨es',h4,h5⟩:=key;refine⟨es',rm (by simp[kindOf,hc]) ?_,h5⟩
 have he:nL ev [mo,ko]=some [.map b,.agg<|ints k]:=by
  unfold nL dB;simp only[h1,w]
 simp only[ig,hc,u,he,h4]
theorem Mm {c:Call} {t kt et:TypeId} {n:Nat} (hT:DW P t kt et n) {b:Nat} {es:List fw} {ck:Nat} {m:LM} (hm:fj n es m) (hb:V.m.get b=some (.map es ck)) {mo:Operand} (hc:c.callee= .builtin .len) (j:c.argTypes[0]?=some t) (u:c.args.toList= [mo]) (h1:ev mo=some (.map b)):
  ey P G ev V (.call c)= .val (.int .i64 (.ofNat m.length)) V:=by
 refine BC (by simp[kindOf,hc,isMap,j,hT.ty]) ?_;simp only[gq,hc,j,u,hT.ty,h1,hb,bY,hm.length]
end
section
variable {P:Program} {G:Cx} {n:Nat} {t:PT U} {V:aE} {K:KP} {L:Own} {Q:Ex->PT U->aE->Prop} {ops:Array Oper} {o:Oper} {l:List Oper}
theorem Q3 (j:D V K L) {t':Nat->PT U} (hw:bM ops t o=some true) (hv:ey P G (bB G t) V o.op= .val (.map V.next) (V.alloc (.map [] 0))) (hp:∀b,dJ t n o.dst (.map b)=some (t' b))
  (h:∀(V':aE) (b:Nat),D V' K ((b,.map [] 0)::L)->bS P G ops n l (t' b) V' Q):bS P G ops n (o::l) t V Q:=
 Y hw hv (hp _) (h _ _<|j.alloc _)
theorem I8 {ev:Operand->Option U} {ty:TypeId}:ey P G ev V (.makeMap ty none)= .val (.map V.next) (V.alloc (.map [] 0)):=by
 exact ua (op:=.makeMap ty none) (mk:=.map) (ob:=.map [] 0) Z Z
theorem Im {ty kt et:TypeId} {kn:Nat} (hT:DW P ty kt et kn) {b:Nat} {es:List fw} {ck:Nat} {m:LM} {x:Nat×cD} (hm:fj kn es m) (j:D V K (x::(b,.map es ck)::L)) {mo ko xo:Operand} {k:List Int} {v:Int} {t':PT U} (hk:k.length=kn) (hw:bM ops t o=some true) (u:o.op= .mapUpdate ty mo ko xo)
  (h1:bB G t mo=some (.map b)) (w:bB G t ko=some (.agg<|ints k)) (z:bB G t xo=some (.int .i64 v)) (hp:dJ t n o.dst unit=some t')
  (h:∀V' es' ck',D V' K (x::(b,.map es' ck')::L)->fj kn es' (pY m k v)->bS P G ops n l t' V' Q):bS P G ops n (o::l) t V Q:=by
 obtain⟨es',ck',e1,A⟩:=Mo (G:=G) hT hm (j.get 1 Z) hk h1 w z;exact kr hw (by rw[u];exact e1) hp<|h _ _ _ (j.N8 _) A
theorem Il {c:Call} {ty kt et:TypeId} {kn:Nat} (hT:DW P ty kt et kn) {b:Nat} {es:List fw} {ck:Nat} {m:LM} {x:Nat×cD} (hm:fj kn es m) (j:D V K (x::(b,.map es ck)::L)) {mo ko:Operand} {k:List Int} {t':PT U} (hk:k.length=kn) (hw:bM ops t o=some true) (u:o.op= .call c)
  (hc:c.callee= .builtin .delete) (w:c.argTypes[0]?=some ty) (z:c.args.toList= [mo,ko]) (h1:bB G t mo=some (.map b)) (A:bB G t ko=some (.agg<|ints k)) (hp:dJ t n o.dst (.tuple [])=some t')
  (h:∀V' es',D V' K (x::(b,.map es' ck)::L)->fj kn es' (lu m k)->bS P G ops n l t' V' Q):bS P G ops n (o::l) t V Q:=by
 obtain⟨es',e1,B⟩:=Ml (G:=G) hT hm (j.get 1 Z) hk hc w z h1 A;exact Y hw (by rw[u];exact e1) hp<|h _ _ (j.N8 _) B
end
end Go.Ev
namespace Go.Ev
variable [Env]
def xJ (t:Nat) (m:LM) (n:Nat) (e:db):LM:=bif bI e then pY m [.ofNat (t+1),.ofNat n] e.loc else m
def rv (t:Nat):List db->Nat->LM->LM
 | [],_,m=>m
 | e::l,n,m=>rv t l (n+1) (xJ t m n e)
def pA:List (List db)->Nat->LM->LM
 | [],_,m=>m
 | l::r,t,m=>pA r (t+1) (rv t l 0 m)
def lD (loc:Nat):List cY->LM->Option LM
 | [],m=>some m
 | id::l,m=>bif (fK m id.ints).isSome then(bif H ((fK m id.ints).getD 0) (.ofNat loc) then lD loc l (lu m id.ints) else none) else none
def nm:List (List cY)->Nat->LM->Option LM
 | [],_,m=>some m
 | l::r,loc,m=>(lD loc l m).bind (nm r (loc+1))
def eV (g:XG):Bool:=
 match nm g.order 0 (pA g.threads 0 []) with
 | some m=>H (.ofNat m.length) 0
 | none=>false
theorem cu {α:Type} {l:List α} {i:Nat} {x:α} (h:l[i]?=some x):l.drop i=x::l.drop (i+1):=by
 grind [List.drop_eq_getElem_cons]
theorem eF {α:Type} {l:List α} {i:Nat} (h:l.length<=i):l.drop i= []:=List.drop_eq_nil_of_le h
end Go.Ev
namespace Go.Ev
theorem vM {b:Bool} (h:(!b)=true):b=false:=by cases b<;>simp_all
theorem kh {b:Bool} (h:(!b)=false):b=true:=by cases b<;>simp_all
end Go.Ev
namespace Go.Ev
variable [Env]
def ew {α:Type} (p:α->Bool):List α->Nat->Int
 | [],_=>-1
 | x::r,i=>bif p x then .ofNat i else ew p r (i+1)
theorem xH {α:Type} {p:α->Bool}:∀(l:List α) (i:Nat),(bif b9 (ew p l i) 0 then false else true)=l.any p
 | [],_=>rfl
 | x::r,i=>by
  show(bif b9 (bif p x then .ofNat i else ew p r (i+1)) 0 then false else true)=_;rw[List.any_cons];cases p x with
  | true=>rfl
  | false=>exact xH r (i+1)
def wB (g:XG) (t n:Nat) (e:db) (f:cY):Bool:=bif bX e (.ofNat g.init.length) then de g ⟨.ofNat (t+1),.ofNat n⟩ f else false
def sF (g:XG) (t:Nat):List db->List cY->Nat->Bool
 | e::l,f::q,n=>bif wB g t n e f then sF g t l q (n+1) else false
 | [],_,_=>true
 | _::_,[],_=>false
def m8 (g:XG):List (List db)->List (List cY)->Nat->Bool
 | l::r,f::q,t=>bif H (.ofNat f.length) (.ofNat l.length) then(bif sF g t l f 0 then m8 g r q (t+1) else false) else false
 | [],_,_=>true
 | _::_,[],_=>false
def cV (g:XG):Int:=
 bif eU g then 3 else bif H (.ofNat g.from_.length) (.ofNat g.threads.length) then(bif H (.ofNat g.order.length) (.ofNat g.init.length) then(bif m8 g g.threads g.from_ 0 then(bif eV g then 0 else 2) else 2) else 2) else 2
theorem yC:∀(l:List U) (off:Nat),ed [] l off=l
 | [],_=>rfl
 | x::l,0=>rfl
 | x::l,off+1=>by
  show x::ed [] l off=x::l;rw[yC l off]
def r6 (P:Program) (e:TypeId) (m:Nat):Bool:=
 match P.info? e with
 | some j=>Nat.beq j.size m && (Nat.ble 1 j.size && (Nat.ble j.bytes 65536 && ((j.zero.bind p6).any fun z=>(cU z).any fun cs=>Nat.beq (du cs) j.size)))
 | none=>false
theorem vk:∀(l r:List U),cP l=true->cP r=true->cP (l++r)=true
 | [],r,_,h=>h
 | v::l,r,h,h'=>by
  have h1:(bif iH v then cP l else false)=true:=h;cases hv:iH v with
  | false=>rw[hv] at h1;cases h1
  | true=>rw[hv] at h1;exact aj hv<|vk l r h1 h'
theorem vK {m:Nat}:∀(n:Nat) (cells:List U),cells.length=n*m->(∀i,i<n->cP ((cells.drop (i*m)).take m)=true)->cP cells=true
 | 0,cells,h,_=>by
  rw[Nat.zero_mul] at h;rw[eN_ h];rfl
 | n+1,cells,h,j=>by
  have e:cells=cells.take m++cells.drop m:=(List.take_append_drop m cells).symm;rw[Nat.succ_mul] at h;rw[e];refine vk _ _ (by have:=j 0 oM;grind) (vK (m:=m) n (cells.drop m) (by grind) fun i hi=>?_)
  grind [Nat.succ_mul,List.drop_drop]
section
variable {P:Program} {G:Cx} {V:aE} {K:KP} {L:Own}
theorem ri {α:Type} {m:Nat} {R:α->List U->Prop} {l:List α} {v:U} (ar:D V K L) (h:bL K m R l v) (j:∀x vs,R x vs->cP vs=true):
  ∃news,oV V m v=some (l.length,news)/\news.length=l.length*m/\cP news=true/\∀(i:Nat) (x:α),l[i]?=some x->R x ((news.drop (i*m)).take m):=by
 rcases h with ⟨rfl,rfl⟩ | ⟨b,off,c,cells,e,ro,rfl,h2,A,h4,h5,h6⟩
 ·exact⟨[],Z,(Nat.zero_mul m).symm,Z,fun i x hx=>by simp at hx⟩
 have w:∀(i:Nat) (x:α),l[i]?=some x->R x ((((cells.drop off).take (l.length*m)).drop (i*m)).take m):=fun i x hx=>by
  have u:i<l.length:=(gA.1 hx).1;have hle:(i+1)*m<=l.length*m:=nM_ _ u
  grind [List.drop_take,List.drop_drop]
 have z:((cells.drop off).take (l.length*m)).length=l.length*m:=by grind
 refine⟨(cells.drop off).take (l.length*m),?_,z,vK l.length _ z fun i hi=>j _ _ (w i l[i]<|gC hi),w⟩;unfold oV;dsimp only;rw[ar.eN A]
 grind [bY,nE_,dR,eA]
theorem DM {α:Type} {m e:Nat} {R:α->List U->Prop} {l2:List α} {X:U} {b u e1:Nat} {cells1:List U} {c:uc} {ts:Array TypeId} {t:TypeId} (F:D V K ((b,.row cells1 e1 false)::L)) (hx:bL K m R l2 X) (C:∀x vs,R x vs->cP vs=true) (hn:l2.length<=1048576)
  (E:cells1.length=u*m) (aa:u<=1048576) (I:c= .known u∨(c= .upto m/\e1=e)) (ht:ts[0]?=some t) (hu:P.underlying t=some (.slice e)) (M:r6 P e m=true) (h2:dU P ts[1]?=true):
  ∃V' b' c' news e',fO P V ts (.slice b 0 u c) X= .val (.slice b' 0 (u+l2.length) c') V'/\D V' K ((b',.row (cells1++news) e' false)::L)/\news.length=l2.length*m/\(∀(i:Nat) (x:α),l2[i]?=some x->R x ((news.drop (i*m)).take m))/\(c'= .known (u+l2.length)∨(c'= .upto m/\e'=e)):=by
 obtain⟨news,s1,W,s3,T⟩:=ri F hx C;unfold r6 at M;split at M
 ·rename_i j hj;simp only[bA_] at M;obtain⟨a1,a2,a3,a4⟩:=M;have hm:j.size=m:=nB a1;subst hm;have hz:((P.info? e).any fun j=>(j.zero.bind p6).any fun z=>(cU z).any fun cs=>Nat.beq (du cs) j.size)=true:=by rw[hj];exact a4
  have hb:=F.get 0 Z;unfold fO;rw[ht];dsimp only;rw[hu];dsimp only;rw[hj];dsimp only;rw[h2,a2,a3];simp only[Bool.and_self,cond_true];rw[s1];dsimp only;rw[hj] at hz;rw[s3,show Nat.ble l2.length 1048576=true by simp_all,hz];simp only[Bool.and_self,cond_true];have hle:Nat.ble (0+u*j.size) (du cells1)=true:=by rw[nE_,bY,E];omega
  have A:takeN (dW cells1 0) (u*j.size)=cells1:=by grind [dR,eA]
  have B:Nat.ble u 1048576=true:=by simp_all
  rcases I with rfl | ⟨rfl,rfl⟩
  ·dsimp only
   by_cases h0:l2.length=0
   ·have w:news= []:=eN_ (by simp_all);subst w;rw[h0,show Nat.ble (u+0) u=true by simp_all];simp only[cond_true];rw[hb];dsimp only;rw[show Nat.ble (0+u*j.size+du []) (du cells1)=true by rw[nE_,bY,bY,E];simp];simp only[cond_true];refine⟨_,b,.known u,[],e1,Z,?_,by simp,T,.inl Z⟩;rw[yC,List.append_nil];exact F.uU _
   have:Nat.ble (u+l2.length) u=false:=by
    grind [nE_]
   rw[this];simp only[cond_false];rw[hb];dsimp only;rw[hle,B,A,eb];simp only[Bool.and_self,cond_true];refine⟨_,_,_,news,e,Z,?_,W,T,.inr ⟨Z,Z⟩⟩;exact((F.alloc _).perm<|List.Perm.swap ..).pop
  dsimp only
  by_cases h0:l2.length=0
  ·have w:news= []:=eN_ (by simp_all);subst w;rw[h0];exact⟨_,b,.upto j.size,[],e1,Z,by simp_all,by simp,T,.inr ⟨Z,Z⟩⟩
  have:Nat.beq l2.length 0=false:=by
   grind [nB]
  rw[this,Nat.beq_refl,B];simp only[Bool.and_self,cond_true,cond_false];rw[hb];dsimp only
  have S:Nat.ble (0+u*j.size+du news) (du cells1)=false:=by
   cases hh:Nat.ble (0+u*j.size+du news) (du cells1) with
   | false=>rfl
   | true=>
    rw[nE_,bY,bY,E,W] at hh;have h1:1<=j.size:=by simp_all
    have:1<=l2.length*j.size:=Nat.mul_pos oM h1;omega
  rw[S,Bool.and_false];simp only[cond_false];rw[hle,Nat.beq_refl,A,eb];simp only[Bool.and_self,cond_true];exact⟨_,_,_,news,e1,Z,F.A0 _,W,T,.inr ⟨Z,Z⟩⟩
 cases M
end
section
variable {P:Program} {G:Cx} {n:Nat} {t:PT U} {V:aE} {K:KP} {L:Own} {Q:Ex->PT U->aE->Prop} {ops:Array Oper} {o:Oper} {l:List Oper}
theorem kI {ev:Operand->Option U} {cl:Call} {so xo:Operand} {s x:U} {r:HR} (hc:cl.callee= .builtin .append) (m:cl.args.toList= [so,xo]) (h1:ev so=some s) (u:ev xo=some x) (j:dU P cl.argTypes[1]?=true) (h:fO P V cl.argTypes s x=r):ey P G ev V (.call cl)=r:=by
 refine rm (by simp[kindOf,hc]) ?_
 have he:nL ev [so,xo]=some [s,x]:=by
  unfold nL dB;simp only[h1,u]
 simp only[ig,hc,m,he,j,cond_true];exact h
theorem xZ {α:Type} {m e:Nat} {R:α->List U->Prop} {l2:List α} {M:U} {b j e1:Nat} {u:List U} {c:uc} {ty:TypeId} {cl:Call} {so xo:Operand} {t':U->PT U} (T:D V K ((b,.row u e1 false)::L)) (hx:bL K m R l2 M) (w:∀x vs,R x vs->cP vs=true) (W:l2.length<=1048576)
  (B:u.length=j*m) (C:j<=1048576) (A:c= .known j∨(c= .upto m/\e1=e)) (hw:bM ops t o=some true) (X:o.op= .call cl) (E:cl.callee= .builtin .append) (z:cl.args.toList= [so,xo]) (ht:cl.argTypes[0]?=some ty) (hu:P.underlying ty=some (.slice e)) (ha:r6 P e m=true) (S:dU P cl.argTypes[1]?=true)
  (F:bB G t so=some (.slice b 0 j c)) (I:bB G t xo=some M) (hp:∀v,dJ t n o.dst v=some (t' v))
  (h:∀(V':aE) (b':Nat) (c':uc) (news:List U) (e':Nat),D V' K ((b',.row (u++news) e' false)::L)->news.length=l2.length*m->(∀(i:Nat) (x:α),l2[i]?=some x->R x ((news.drop (i*m)).take m))->(c'= .known (j+l2.length)∨(c'= .upto m/\e'=e))->bS P G ops n l (t' (.slice b' 0 (j+l2.length) c')) V' Q):bS P G ops n (o::l) t V Q:=by
 obtain⟨V',b',c',news,e',k1,k2,k3,k4,k5⟩:=DM (P:=P) T hx w W B C A ht hu ha S;refine Y hw ?_ (hp _)<|h V' b' c' news e' k2 k3 k4 k5;rw[X];exact kI E z F I S k1
end
end Go.Ev
namespace Go.Ev
variable [Env]
section
variable {P:Program} {G:Cx} {n:Nat} {t:PT U} {V:aE} {K:KP} {L:Own} {Q:Ex->PT U->aE->Prop} {ops:Array Oper} {o:Oper} {l:List Oper}
theorem FC {α:Type} {m e k:Nat} {kk:IntKind} {R:α->List U->Prop} {la:List α} {v:U} {ty:TypeId} {ev:Operand->Option U} {xo hi:Operand} (h:bL K m R la v) (hk:k<=la.length) (hu:P.underlying ty=some (.slice e)) (hj:(P.info? e).map (·.size)=some m) (hx:ev xo=some v) (A:ev hi=some (.int kk (.ofNat k))):
  ∃w,gF P ev ty xo none (some hi) none=some w/\bL K m R (la.take k) w:=by
 cases hq:P.info? e with
 | none=>simp_all
 | some j=>
 rw[hq] at hj;have hj:j.size=m:=by simpa using hj
 subst hj;have hlen:(la.take k).length=k:=by simp_all
 have hb:∀y,k<=y->fh ev hi y=some k:=fun y hy=>by
  unfold fh;rw[A]
  grind [nE_]
 rcases h with ⟨rfl,rfl⟩ | ⟨b,off,c,cells,e',ro,rfl,B,C,h4,h5,h6⟩
 ·have u:k=0:=by simpa using hk
  subst u;refine⟨.az,?_,.inl ⟨by simp,Z⟩⟩;unfold gF;rw[hu,hx];dsimp only;unfold dE
  simp_all
 have fin:∀c',Ox j.size k c'->bL K j.size R (la.take k) (.slice b off k c'):=fun c' z=>by
  refine .inr ⟨b,off,c',cells,e',ro,by rw[hlen],by rw[hlen];exact z,C,?_,by rw[hlen];omega,fun i x aa=>?_⟩
  ·rw[hlen];have:k*j.size<=la.length*j.size:=nM_ _ hk;omega
  grind
 rcases B with rfl | ⟨cp,rfl,ab⟩
 ·refine⟨.slice b off k (.upto j.size),?_,fin _ (.inl Z)⟩;unfold gF;rw[hu,hx];dsimp only;unfold dE
  simp_all
 refine⟨.slice b off k (.known cp),?_,fin _ (.inr ⟨cp,Z,by omega⟩)⟩;unfold gF;rw[hu,hx];dsimp only;unfold cutAt dE;dsimp only;rw[hb _ oM];dsimp only;unfold cut
 simp_all
end
theorem gz {g:XG} (h:cV g=0):g.threads.length<=4/\g.init.length<=6/\(∀l∈g.threads,l.length<=14)/\g.from_.length=g.threads.length/\g.order.length=g.init.length/\m8 g g.threads g.from_ 0=true/\eV g=true:=by
 unfold cV at h;cases h1:eU g with
 | true=>rw[h1] at h;cases h
 | false=>
  rw[h1] at h;simp only[cond_false] at h;cases j:H (.ofNat g.from_.length) (.ofNat g.threads.length) with
  | false=>rw[j] at h;cases h
  | true=>
   rw[j] at h;simp only[cond_true] at h;cases m:H (.ofNat g.order.length) (.ofNat g.init.length) with
   | false=>rw[m] at h;cases h
   | true=>
    rw[m] at h;simp only[cond_true] at h;cases h4:m8 g g.threads g.from_ 0 with
    | false=>rw[h4] at h;cases h
    | true=>
     rw[h4] at h;simp only[cond_true] at h;cases h5:eV g with
     | false=>rw[h5] at h;cases h
     | true=>
      unfold eU at h1;cases u:b9 4 (.ofNat g.threads.length) with
      | true=>simp_all
      | false=>
       rw[u] at h1;simp only[cond_false] at h1;cases w:b9 6 (.ofNat g.init.length) with
       | true=>simp_all
       | false=>
        rw[w] at h1;simp only[cond_false] at h1;refine⟨bA (a:=4) u,bA (a:=6) w,fun l hl=>?_,dC j,dC m,Z,Z⟩;have:=List.any_eq_false.1 h1 l hl;exact bA (a:=14) (by simpa using this)
theorem Hg {a b:Nat} (h:a+b<=9223372036854775807):wr .i64 (Int.add (.ofNat a) (.ofNat b))= .ofNat (a+b):=by
 show(bif Nat.ble (a+b) 9223372036854775807 then _ else _)=_
 grind [nE_]
def nD {α:Type} (ls:List (List α)):Nat:=(ls.map List.length).sum
def Ez (g:XG):Nat:=bif H (cV g) 0 then g.init.length+nD g.threads else 0
end Go.Ev
namespace Go.Ev
variable [Env]
theorem JU {a:Int} (h:H a 0=true):a=0:=by rw[cW] at h;simp_all
theorem Hh {a b:Nat} (h:b<=a) (h':a<=9223372036854775807):wr .i64 (Int.sub (.ofNat a) (.ofNat b))= .ofNat (a-b):=by
 have e:Int.sub (.ofNat a) (.ofNat b)= .ofNat (a-b):=by
  grind
 rw[e];show(bif Nat.ble (a-b) 9223372036854775807 then _ else _)=_
 grind [nE_]
theorem JW {g:XG} {th ix:Int} (h:(dn g ⟨th,ix⟩).isSome=true):∃t i:Nat,th= .ofNat t/\ix= .ofNat i/\t<=g.threads.length/\(t=0->i<g.init.length)/\∀m,t=m+1->∃l,g.threads[m]?=some l/\i<l.length:=by
 cases th with
 | negSucc t=>cases h
 | ofNat t=>cases ix with
  | negSucc i=>cases t<;>cases h
  | ofNat i=>
   refine⟨t,i,Z,Z,?_,?_,?_⟩
   ·cases t with
    | zero=>exact Nat.zero_le _
    | succ t=>
     have h:((g.threads[t]?).bind (·[i]?)).isSome=true:=h
     grind
   ·rintro rfl;have h:((g.init[i]?).map fun v=>(⟨2,i,1,0,v⟩:db)).isSome=true:=h
    simp_all
   rintro m rfl;have h:((g.threads[m]?).bind (·[i]?)).isSome=true:=h
   grind
section
variable {V:aE} {K K':KP} {L:Own}
theorem D.weaken (h:D V K' L) (hk:KP.le K K'):D V K L where
 kept b o hb:=h.kept b o (hk b o hb)
 own:=h.own
 ne:=h.ne
def KP.g9 (K:KP) (M:Own):KP:=fun b o=>K b o∨(b,o)∈M
theorem KP.dj (K:KP) (M:Own):KP.le K (K.g9 M):=fun _ _ h=>.inl h
theorem D.keeps {M:Own} (h:D V K (M++L)):D V (K.g9 M) L where
 kept b o hb:=by
  rcases hb with hb | hb
  ·exact h.bR.kept b o hb
  obtain⟨h1,j⟩:=h.own _ (List.mem_append_left _ hb);exact⟨h1,j,fun e he m=>(List.pairwise_append.1 h.ne).2.2 _ hb e he m.symm⟩
 own e he:=h.own e (List.mem_append_right _ he)
 ne:=(List.pairwise_append.1 h.ne).2.1
end
section
variable {P:Program} {G:Cx} {K K':KP}
def O3 (P:Program) (G:Cx) (K:KP) (n:Int) (vs:List U):Prop:=
 ∃(f:Nat) (ca:List U),vs= [.func f [] ca]/\xM P f=true/\∀(V:aE) (L:Own),D V K L->bu P G f ca V fun v V'=>v= .int .i64 n/\D V' K L
def wH (P:Program) (G:Cx) (K:KP) (l:List Int) (cells:List U):Prop:=l.length=cells.length/\∀(i:Nat) (x:Int),l[i]?=some x->∃c,cells[i]?=some c/\O3 P G K x [c]
theorem wH.nil:wH P G K [] []:=⟨Z,fun i x h=>by simp at h⟩
theorem wH.cons {x:Int} {l:List Int} {c:U} {cells:List U} (h:O3 P G K x [c]) (j:wH P G K l cells):wH P G K (x::l) (c::cells):=by
 refine⟨by simp[j.1],fun i y m=>?_⟩;cases i with
 | zero=>simp_all
 | succ i=>exact j.2 i y (by simpa using m)
theorem wH.slice {l:List Int} {cells:List U} (h:wH P G K l cells) {b e n c:Nat} (hk:K b (.row cells e false)) (j:l.length=n) (hc:n<=c) (hl:n<=9223372036854775807):bL K 1 (O3 P G K) l (.slice b 0 n (.known c)):=by
 subst j;refine .inr ⟨b,0,_,cells,e,false,Z,.inr ⟨_,Z,hc⟩,hk,by rw[h.1];omega,hl,fun i x hx=>?_⟩;obtain⟨c,hc,m⟩:=h.2 i x hx
 have:(cells.drop (0+i*1)).take 1= [c]:=by
  obtain⟨aa,rfl⟩:=gA.1 hc
  grind [List.drop_eq_getElem_cons]
 rw[this];exact m
theorem bP {ev:Operand->Option U} {V:aE} {t e:TypeId} {len m:Nat} {parts:Array (Nat×Operand)} {z cs:List U} (w:P.underlying t=some (.slice e)) (hj:(P.info? e).map (·.size)=some m) (A:(fl P e).bind cU=some z)
  (hb:(Nat.beq (du z) m && Nat.ble (len*m) 16777216 && Nat.ble 1 m)=true) (hf:jI (fun i=>some (i*m,m)) ev parts.toList (fp z len)=some cs):ey P G ev V (.buildSlice t len parts)= .val (.slice V.next 0 len (.known len)) (V.alloc (.row cs e false)):=by
 refine ua (mk:=.slice len len) Z ?_;obtain⟨j,u,rfl⟩:=oM_.1 hj;simp only[fy,w,u,A,hb,cond_true,hf]
end
section
variable {P:Program} {G:Cx} {n:Nat} {t:PT U} {V:aE} {K:KP} {L:Own} {Q:Ex->PT U->aE->Prop} {ops:Array Oper} {o:Oper} {l:List Oper} {ix:Nat} {lp:List (Nat×List Nat)}
end
theorem ez (k:IntKind) (n:Int):eh (.int k n) (.int k n)=true:=by
 unfold Go.Ev.eh;exact fq k n
theorem BV (s:List Nat):eh (.str s) (.str s)=true:=by
 unfold Go.Ev.eh;exact sT s
theorem bL.eh {α:Type} {K:KP} {m:Nat} {R:α->List U->Prop} {l:List α} {v:U} (h:bL K m R l v):Go.Ev.eh v v=true:=by
 have hb:=h.lh;rcases h with ⟨_,rfl⟩ | ⟨b,off,c,cells,e,ro,rfl,hc,_⟩<;>exact hb
def O9 (x y:Int):Int:=bif b9 x y then-1 else bif b9 y x then 1 else 0
def QG {α:Type} (c:α->α->Int):List α->List α->Int
 | [],[]=>0
 | [],_::_=>-1
 | _::_,[]=>1
 | x::l,y::m=>bif H (c x y) 0 then QG c l m else c x y
end Go.Ev
end
