/- Part of the proof: an evaluator of the model's code, rules for walks on it, walks. Without conditions. -/
import Derived.Test.YtmilmijjgnapbaaGreatDoorEa
import Derived.RecoverIn
import Derived.TacticsIn
import Derived.OrdersIn
import Derived.Sort.LoopGhostIn
import Derived.Scope
import Derived.ProofKit
import Derived.LaidSub
import Derived.KernelRfl
set_option linter.unusedSectionVars false
set_option linter.unusedVariables false
set_option linter.unusedSimpArgs false
noncomputable section
namespace Go.Ev
variable [Env]
theorem uY {p q:Pos} (h:dL.beqP p q=true):p=q:=nB h
theorem LY {c d:nL} (h:dL.beqC c d=true):c=d:=by
 unfold dL.beqC at h
 grind [nB]
theorem FD {x y:J} (h:dL.lf x y=true):x=y:=by
 unfold dL.lf at h;split at h
 ·grind
 ·rw[bA_,dv,decide_eq_true_eq] at h;rw[oC h.1,h.2]
 ·rw[rz,decide_eq_true_eq] at h;rw[h]
 ·rfl
 ·simp_all
 ·rw[bA_] at h;rw[uY h.1,nB h.2]
 ·rfl
 ·simp only[bA_] at h;grind [uY,nB,LY]
 ·rfl
 ·rw[uY h]
 ·rfl
 ·rfl
 ·simp_all
 ·simp only[bA_] at h;grind [nB,uY]
 cases h
theorem uX:∀{xs ys:List J},dL.beqL xs ys=true->xs=ys
 | [],[],_=>rfl
 | [],_::_,h=>by cases h
 | _::_,[],h=>by cases h
 | x::xs,y::ys,h=>by
  have h':(bif dL.lf x y then dL.beqL xs ys else false)=true:=h;rw[bu] at h';split at h'
  ·rename_i hb;rw[FD hb,uX h']
  cases h'
theorem LX {x y:J} (h:dL x y=true):x=y:=by
 unfold dL at h;split at h
 ·rw[uX h]
 exact FD h
theorem EE (E:Nat->TypeId) {l:List (Nat×List J)} {b:Nat} {o:cu} (h:(JK l E).get b=some o):∃x∈l,x.1=b/\o= .row x.2 (E x.1) true:=by
 have key:∀(l:List (Nat×List J)) (m:PT cu),(l.foldl (fun m x=>m.put (some (.row x.2 (E x.1) true)) (posOf x.1)) m).get b=some o->(∃x∈l,x.1=b/\o= .row x.2 (E x.1) true)∨m.get b=some o:=by
  intro l;induction l with
  | nil=>simp_all
  | cons x l ih=>
   intro m h;rcases ih _ h with ⟨y,h1,h2⟩ | h
   ·grind
   rw[PT.kO] at h
   grind
 rcases key l _ h with h | h
 ·exact h
 rw[PT.jh] at h;cases h
section
variable {P:Program} {G:Cx} {O:Ren} {V:N} {w:World}
theorem Inv.putObj (hi:Inv O V w) {b:Pos} {l:Loc} {o o':cu} {x:Obj} (hb:V.m.get b=some o) (hl:O b=some l) (u:o.ro=false) (d:o'.ro=false) (A:fR O l o' x):
  Inv O (V.setObj b o') (w.putObj l.da x)/\eF O V w O (V.setObj b o') (w.putObj l.da x):=by
 have hlt:=hi.da b l hl;exact hi.change hb hl u d (World.putObj_heap_same hlt) A (fun r C=>World.putObj_heap_other C) (by simp) Z Z ⟨Z,nR_ _⟩
theorem CE (d:∀g,G.ov g=true->sT P g) {ev:Operand->Option J} {f:Operand->Value} {o:Oper} {r:HR} (hi:Inv O V w) (b:ER O ev f o.op) (h:dM P G ev V o.op=r) (hne:∀n,r≠ .err n):xQ P O V w r ((execOp f o).run P w):=by
 subst h;unfold dM at hne⊢;cases hk:kindOf P o.op with
 | pure=>
  rw[hk] at hne;dsimp only at hne⊢;cases hp:du P ev o.op with
  | none=>simp_all
  | some v=>
   obtain⟨x,hx,hv⟩:=w9 (P:=P) (w:=w) b hp;rw[hx];exact .val hv hi<|eF.refl O V w
 | read=>
  rw[hk] at hne;dsimp only at hne⊢;cases hp:eY P ev V o.op with
  | none=>simp_all
  | some v=>
   obtain⟨x,hx,hv⟩:=xh (P:=P) hi b hp;rw[hx];exact .val hv hi<|eF.refl O V w
 | alloc=>
  rw[hk] at hne;dsimp only at hne⊢;cases hp:eZ P ev o.op with
  | none=>simp_all
  | some p=>
   obtain⟨ob,mk⟩:=p;obtain⟨x,ob',n,hx,aa,m,hv⟩:=ua (P:=P) (w:=w) b hp;obtain⟨inv,st⟩:=hi.alloc (l:=⟨w.heap.size,0,n⟩) Z m;rw[hx];exact .val (hv _ _<|Ren.cy _ _ _) inv st
 | kh=>
  rw[hk] at hne;exact B7 d hi b Z hne
theorem uB {ev:Operand->Option J} {o:Oper} (hne:∀n,dM P G ev V o.op≠ .err n) (c:Call):o.op≠ .defer c:=by
 intro e;rw[e] at hne;exact hne 16 Z
def NJ (O:Ren):Md->FrameMode->Prop
 | .ret,u=>u= .returning
 | .jE v,u=>∃x,u= .panicking [{v:=x,recovered:=false}]/\VR O v x
 | .Rp v,u=>∃x,u= .panicking [{v:=x,recovered:=true}]/\VR O v x
theorem NJ.mono {O ρ':Ren} (h:O.le ρ'):∀{md:Md} {u:FrameMode},NJ O md u->NJ ρ' md u
 | .ret,_,h'=>h'
 | .jE _,_,⟨x,h1,b⟩=>⟨x,h1,VR.mono h _ _ b⟩
 | .Rp _,_,⟨x,h1,b⟩=>⟨x,h1,VR.mono h _ _ b⟩
theorem NJ.Mz {O:Ren}:∀{md:Md} {u:FrameMode},NJ O md u->u≠ .run
 | .ret,u,h=>by have h:u= .returning:=h;subst h;simp
 | .jE v,u,⟨x,h1,b⟩=>by subst h1;simp
 | .Rp v,u,⟨x,h1,b⟩=>by subst h1;simp
theorem oN {ih:jx} (M:Sound P G ih) {fn:Func} {m:Nat} {tmps:Array Value} {R:Ending->World->Prop}:∀(d:List DE) (ds:List Deferred) (md:Md) (V:N) (A:Md) (C:N) (O:Ren) (w:World) (u:FrameMode),tw P G ih d md V=some (A,C)->DR O d ds->Inv O V w->GR O G->NJ O md u->
  (∀(ρ':Ren) (w':World) (u':FrameMode),Inv ρ' C w'->eF O V w ρ' C w'->NJ ρ' A u'->LeavesIn Fence.wide m P fn tmps R [] u' w')->LeavesInM Fence.wide m P fn tmps R ds u w
 | [],ds,md,V,A,C,O,w,u,h,hd,hi,F,hm,hk=>by
  have h':some (md,V)=some (A,C):=h;cases h';have:ds= []:=hd;subst this;exact hk O w u hi (eF.refl O V w) hm
 | .mark b::d,ds,md,V,A,C,O,w,u,h,hd,hi,F,hm,hk=>by
  obtain⟨l,r,hl,rfl,I⟩:=hd
  have h':(match V.m.get b with
    | some .mark=>tw P G ih d md (V.setObj b .dead)
    | _=>none)=some (A,C):=h
  cases hb:V.m.get b with
  | none=>rw[hb] at h';cases h'
  | some o=>
   rw[hb] at h';cases o with
   | mark=>
    dsimp only at h';obtain⟨x,hx,K⟩:=hi.obj b _ l hb hl;have E:x= .deferred (some []):=K;subst E;obtain⟨inv,st⟩:=hi.putObj (o':=.dead) (x:=.deferred none) hb hl Z Z trivial;refine⟨hm.Mz,.inl ⟨l.da,w.putObj l.da (.deferred none),Z,run_takeDeferred hx,?_⟩⟩;exact oN M d r md _ A C O _ u h' I inv F hm fun ρ' w' u' L st'=>hk ρ' w' u' L (st.trans st')
   | _=>cases h'
 | .call _ _ _::_,ds,md,V,A,C,O,w,u,h,hd,hi,F,hm,hk=>by cases h
theorem s7 {ih:jx} (F:Sound P G ih) {fn:Func} {m n:Nat} {t:PT J} {d:List DE} {md:Md} {r:KR} {a:Act} {u:FrameMode} {R:Ending->World->Prop} (h:xW P G ih fn md t d V=r) (hne:∀n,r≠ .err n) (hi:Inv O V w) (I:GR O G) (M:TR O t n a.tmps) (hd:DR O d a.defers) (hm:NJ O md u)
  (K:∀(ρ':Ren) (w':World) (E:Ending),Inv ρ' r.heap w'->eF O V w ρ' r.heap w'->PM ρ' r E->R E w'):LeavesInM Fence.wide m P fn a.tmps R a.defers u w:=by
 unfold xW at h;cases hl:tw P G ih d md V with
 | none=>grind
 | some q=>
  obtain⟨C,Q⟩:=q;rw[hl] at h;cases C with
  | ret=>
   dsimp only at h;cases L:dU P fn t Q with
   | none=>grind
   | some v=>
    rw[L] at h;subst h;refine oN F d a.defers md V _ _ O w u hl hd hi I hm fun ρ' w' u' A st' b=>?_
    have b:u'= .returning:=b;subst b;obtain⟨x,hx,hv⟩:=ya (P:=P) A (M.mono<|st'.le hi) L;exact⟨x,hx,K ρ' w' _ A st' ⟨x,Z,hv⟩⟩
  | jE v=>
   dsimp only at h;subst h;refine oN F d a.defers md V _ _ O w u hl hd hi I hm fun ρ' w' u' A st' b=>?_
   obtain⟨x,rfl,hv⟩:=b;exact K ρ' w' _ A st' ⟨x,Z,hv⟩
  | Rp v=>grind
theorem yj {ih:jx} (C:Sound P G ih) {f:Nat} {args:List J} {xs:Array Value} {r:KR} (h:lV P G ih f args V=r) (hne:∀n,r≠ .err n) (hi:Inv O V w) (F:GR O G) (hx:cT O args xs.toList)
  (rl:Option Nat) (m:Nat) {R:Ending->World->Prop} (I:∀(ρ':Ren) (w':World) (E:Ending),Inv ρ' r.heap w'->eF O V w ρ' r.heap w'->PM ρ' r E->R E w'):CallsIn (kN rl) m P f xs w R:=by
 refine rB rl ?_;unfold lV at h;cases hf:P.funcs[f]? with
 | none=>grind
 | some fn=>
 rw[hf] at h;dsimp only at h;cases hb:fn.body with
 | none=>grind
 | some c=>
 cases K:qA fn.ntmps args with
 | none=>grind
 | some t=>
 rw[hb,K] at h;dsimp only at h;refine callsIn_of_wp_marks hf hb trivial ?_;have ht:=DU K hx;cases hc:ih c t fn.ntmps [] none V with
 | err k=>grind
 | ok e t' d' L=>
  rw[hc] at h;have hcode:=fun(Q:Exit->Act->World->Prop) M=>C.run c t fn.ntmps [] none V e t' d' L hc O w {tmps:=xs++Array.replicate (fn.ntmps-xs.size) undef,defers:=[]} none m Q hi F ht Z trivial M
  cases e with
  | normal=>
   refine hcode _ fun ρ' w' a' d st u A E b=>?_
   have b:E= .normal:=b;subst b;exact s7 C h hne d (F.mono<|st.le hi) u A (md:=.ret) Z fun ρ₂ w₂ E i₂ s₂ b=>I ρ₂ w₂ E i₂ (st.trans s₂) b
  | ret=>
   refine hcode _ fun ρ' w' a' d st u A E b=>?_
   have b:E= .ret:=b;subst b;exact s7 C h hne d (F.mono<|st.le hi) u A (md:=.ret) Z fun ρ₂ w₂ E i₂ s₂ b=>I ρ₂ w₂ E i₂ (st.trans s₂) b
  | jE v=>
   refine hcode _ fun ρ' w' a' d st u A E b=>?_
   obtain⟨x,rfl,hv⟩:=b;exact s7 C h hne d (F.mono<|st.le hi) u A (md:=.jE v) ⟨x,Z,hv⟩ fun ρ₂ w₂ E i₂ s₂ b=>I ρ₂ w₂ E i₂ (st.trans s₂) b
  | exit i=>grind
  | goto i=>grind
theorem lW {ih:jx} (b:Sound P G ih) {f:Nat} {args:List J} {xs:Array Value} {V':N} {v:J} (h:lV P G ih f args V= .ret v V') (hi:Inv O V w) (d:GR O G) (hx:cT O args xs.toList)
  (rl:Option Nat) (m:Nat) {R:Ending->World->Prop} (u:∀(ρ':Ren) (w':World) (x:Value),Inv ρ' V' w'->eF O V w ρ' V' w'->VR ρ' v x->R (.returned x) w'):CallsIn (kN rl) m P f xs w R:=
 yj b h (fun n h=>by cases h) hi d hx rl m fun ρ' w' E i s ⟨x,A,hv⟩=>by subst A;exact u ρ' w' x i s hv
theorem mT {O ρ':Ren} {v:J} {x:Value} (h:qJ v=true) (hv:VR O v x):VR ρ' v x:=by
 cases v<;>first | (simp[qJ] at h;done) | (simp only[VR] at hv⊢;exact hv)
theorem rP {v:J} {l:List J} (h:fj (v::l)=true):qJ v=true/\fj l=true:=by
 have h':(bif qJ v then fj l else false)=true:=h
 simp_all
theorem j0:∀{l:List J},fj l=true->∀v∈l,qJ v=true
 | [],_,v,hv=>by cases hv
 | x::l,h,v,hv=>by
  obtain⟨h1,b⟩:=rP h;rcases mQ_.1 hv with rfl | hv
  ·exact h1
  exact j0 b v hv
theorem tW {O ρ':Ren}:∀{vs:List J} {xs:List Value},fj vs=true->cT O vs xs->cT ρ' vs xs
 | [],xs,_,h=>by rw[h.dY];exact cT.nil
 | v::vs,xs,h,hv=>by
  obtain⟨h1,b⟩:=rP h;obtain⟨x,r,rfl,d,h4⟩:=hv.cons_inv;exact cT.cons (mT h1 d)<|tW b h4
theorem Ho {x y:J} (h:Ac x y=true):x=y:=by
 unfold Ac at h;split at h
 ·grind
 ·rw[bA_,dv,decide_eq_true_eq] at h;rw[oC h.1,h.2]
 ·rw[rz,decide_eq_true_eq] at h;rw[h]
 ·rfl
 ·rfl
 ·rfl
 ·rfl
 ·rfl
 cases h
theorem nr:∀{xs ys:List J},pP xs ys=true->xs=ys
 | [],[],_=>rfl
 | [],_::_,h=>by cases h
 | _::_,[],h=>by cases h
 | x::xs,y::ys,h=>by
  have h':(bif Ac x y then pP xs ys else false)=true:=h;rw[bu] at h';split at h'
  ·rename_i hb;rw[Ho hb,nr h']
  cases h'
theorem xm (v:J):∀(n:Nat),Gz n v=List.replicate n v
 | 0=>rfl
 | n+1=>by show v::Gz n v=_;rw[xm v n,List.replicate_succ]
theorem hJ.inv {w w':World} (hk:hJ w w') (hi:Inv O V w):Inv O V w'/\eF O V w O V w':=
 hi.of ⟨⟨hi.fresh,fun b l hb=>Nat.lt_of_lt_of_le (hi.da b l hb) hk.size,fun b o l hb hl=>let ⟨x,hx,d⟩:=hi.obj b o l hb hl;⟨x,by rw[hk.same _<|hi.da b l hl];exact hx,d⟩,hi.inj⟩,
  ⟨fun _ _=>Z,nR_ _,hk.size,fun r m _=>hk.same r m,fun _ h _=>h,hk.tape,hk.os,hk.out⟩⟩
theorem F1 {b vb:Pos} {o o':cu} (x:Pos):(fp V b o vb o').m.get x=if x=vb then some o' else if x=b then some o else none:=by
 unfold fp;rw[PT.kO,PT.kO,PT.jh]
theorem Nk (hi:Inv O V w) {b vb:Pos} {o o₁ o':cu} {l:Loc} (hb:V.m.get b=some o) (aa:V.m.get vb=some o') (hl:O b=some l) (ab:o.ro=o₁.ro)
  (ho:∀x,fR O l o x->fR O l o₁ x):Inv O (fp V b o₁ vb o') w:=by
 have back:∀x q,(fp V b o₁ vb o').m.get x=some q->∃q',V.m.get x=some q'/\q.ro=q'.ro/\((x=b/\q=o₁)∨q=q'):=fun x q h=>by
  rw[F1] at h
  grind
 refine⟨⟨fun x hx=>⟨(hi.fresh x hx).1,?_⟩,hi.da,fun x q lx hx d=>?_,fun x y q r lx ly hx hy d u he hne=>?_⟩,hi.nz.size,hi.nz.same,fun r E ⟨x,q,l',h1,A,C,h4⟩=>?_⟩
 ·cases hq:(fp V b o₁ vb o').m.get x with
  | none=>rfl
  | some q=>
   obtain⟨q',h',_⟩:=back x q hq;rw[(hi.fresh x hx).2] at h';cases h'
 ·obtain⟨q',h',_,h''⟩:=back x q hx;obtain⟨y,hy,E⟩:=hi.obj x q' lx h' d
  grind
 ·obtain⟨q',h1,A,_⟩:=back x q hx;obtain⟨r',C,h4,_⟩:=back y r hy;rw[A,h4];exact hi.inj x y q' r' lx ly h1 C d u he hne
 obtain⟨q',h5,F,_⟩:=back x q h1;exact hi.nz.no r E ⟨x,q',l',h5,by rw[<-F];exact A,C,h4⟩
theorem Hz (hi:Inv O V w) {b vb:Pos} {cells cells' vc:List J} {e ve:Nat} {l lv:Loc} (hb:V.m.get b=some (.row cells e false)) (K:V.m.get vb=some (.row vc ve false)) (Q:O b=some l) (u:O vb=some lv)
  (hne:b≠vb) {ρ₁:Ren} {R:N} {w₁:World} (i₁:Inv ρ₁ R w₁) (s₁:eF O (fp V b (.row cells' e false) vb (.row vc ve false)) w ρ₁ R w₁) {b₁:Pos} {l₁:Loc} {cs₁:List J} {o₁ k:Nat}
  (g₁:R.m.get b₁=some (.row cs₁ e false)) (hl₁:ρ₁ b₁=some l₁) (gv:R.m.get vb=some (.row vc ve false)) (hne₁:b₁≠vb) (ai:fj vc=true) (hk:o₁+k<=cs₁.length) (al:fj ((cs₁.drop o₁).take k)=true):
  zH (O.with V.next ⟨l₁.da,l₁.sh+o₁,l₁.cells-o₁⟩) ((V.drop b).alloc (.row ((cs₁.drop o₁).take k) e false)) w₁/\
   eF O V w (O.with V.next ⟨l₁.da,l₁.sh+o₁,l₁.cells-o₁⟩) ((V.drop b).alloc (.row ((cs₁.drop o₁).take k) e false)) w₁:=by
 have hle:=hi.vv ⟨l₁.da,l₁.sh+o₁,l₁.cells-o₁⟩;have L:((V.drop b).alloc (.row ((cs₁.drop o₁).take k) e false)).m.get V.next=some (.row ((cs₁.drop o₁).take k) e false):=PT.de _ _ _
 have ac:∀x,x≠V.next->((V.drop b).alloc (.row ((cs₁.drop o₁).take k) e false)).m.get x=if x=b then none else V.m.get x:=fun x hx=>by
  show((V.m.put none b).put _ V.next).get x=_;rw[PT.db _ _ _ _ hx,PT.kO]
 have nz:∀x q,x≠V.next->((V.drop b).alloc (.row ((cs₁.drop o₁).take k) e false)).m.get x=some q->x≠b/\V.m.get x=some q:=fun x q hx h=>by
  simp_all
 have hold:∀x lx,x≠V.next->(O.with V.next ⟨l₁.da,l₁.sh+o₁,l₁.cells-o₁⟩) x=some lx->O x=some lx:=fun x lx hx h=>by rwa[Ren.dO O _ hx] at h
 have W:∀x:Pos,x.num<V.next.num->x≠V.next:=fun x hx e=>by simp_all
 have T:∀r,Wr O (fp V b (.row cells' e false) vb (.row vc ve false)) r->r=l.da∨r=lv.da:=fun r ⟨x,q,lx,h1,F,C,h4⟩=>by
  rw[F1] at h1
  grind
 have wrs:∀r,Wr O (fp V b (.row cells' e false) vb (.row vc ve false)) r->Wr O V r:=fun r h=>by
  rcases T r h with rfl | rfl
  ·exact⟨b,_,l,hb,Z,Q,Z⟩
  exact⟨vb,_,lv,K,Z,u,Z⟩
 have away:∀x q lx,x≠b->x≠vb->V.m.get x=some q->O x=some lx->lx.da≠l.da/\lx.da≠lv.da:=fun x q lx h1 F C h4=>by
  constructor
  ·intro he;have:=(hi.inj x b q _ lx l C hb h4 Q he h1).2;simp[cu.ro] at this
  intro he;have:=(hi.inj x vb q _ lx lv C K h4 u he F).2;simp[cu.ro] at this
 have ad:∀x q lx,x≠b->V.m.get x=some q->O x=some lx->lx.da≠l₁.da:=fun x q lx h1 C h4 he=>by
  have hlt:=hi.da x lx h4;have hw:Wr ρ₁ R lx.da:=⟨b₁,_,l₁,g₁,Z,hl₁,he.symm⟩
  by_cases F:x=vb
  ·subst F;rw[u] at h4;cases h4;have E:ρ₁ x=some lv:=s₁.ext x (hi.EK u) |>.trans u;have:=(i₁.inj b₁ x _ _ l₁ lv g₁ gv hl₁ E he.symm hne₁).1;simp[cu.ro] at this
  obtain⟨a1,a2⟩:=away x q lx h1 F C h4;rcases T _ (s₁.wr _ hw hlt) with h | h
  ·exact a1 h
  exact a2 h
 have flatObj:∀{l':Loc} {c:List J} {e':Nat} {y:Obj} {ρa ρb:Ren},fj c=true->fR ρa l' (.row c e' false) y->fR ρb l' (.row c e' false) y:=fun hc ho=>by
  obtain⟨c',fr,h1,F,C,h4,h5⟩:=ho;exact⟨c',fr,h1,F,C,fun i v hv=>let ⟨z,hz,X⟩:=h4 i v hv;⟨z,hz,mT (j0 hc v<|gB_ hv) X⟩,h5⟩
 constructor
 ·refine⟨fun x hx=>?_,fun x lx d=>?_,fun x q lx hx d=>?_,fun x y q r lx ly hx hy d aa he U=>?_⟩
  ·have I:V.next.num+1<=x.num:=by simpa [N.alloc,N.drop,Pos.ie] using hx
   have A:x≠V.next:=fun e=>by subst e;omega
   have hf:=hi.fresh x oM
   grind [Ren.dO]
  ·by_cases A:x=V.next
   ·subst A;rw[Ren.cy] at d;cases d;exact i₁.da b₁ l₁ hl₁
   exact Nat.lt_of_lt_of_le (hi.da x lx<|hold x lx A d) s₁.size
  ·by_cases A:x=V.next
   ·subst A;rw[L] at hx;rw[Ren.cy] at d;cases hx;cases d;obtain⟨c,fr,h1,F,C,h4,h5⟩:=i₁.row g₁ hl₁;refine⟨_,h1,c,fr,Z,?_,?_,fun i v hv=>?_,fun _ j hj=>h5 Z j (by grind)⟩
    ·grind
    ·grind
    grind [mT,j0]
   obtain⟨am,I⟩:=nz x q A hx;have hlx':=hold x lx A d
   by_cases ab:x=vb
   ·subst ab;rw[K] at I;cases I;rw[u] at hlx';cases hlx';have E:ρ₁ x=some lv:=(s₁.ext x<|hi.EK u).trans u;obtain⟨y,hy,M⟩:=i₁.obj x _ lv gv E
    grind
   obtain⟨y,hy,M⟩:=hi.obj x q lx I hlx';refine⟨y,?_,M.mono hle⟩;rw[s₁.frame _ (hi.da x lx hlx') (fun h=>?_)]
   ·exact hy
   grind
  by_cases e1:x=V.next<;>by_cases e2:y=V.next
  ·simp_all
  ·grind [Ren.cy]
  ·grind [Ren.cy]
  exact hi.inj x y q r lx ly (nz x q e1 hx).2 (nz y r e2 hy).2 (hold x lx e1 d) (hold y ly e2 aa) he U
 refine⟨fun x hx=>Ren.dO O _ (W x hx),by simp[N.alloc,N.drop,Pos.ie],s₁.size,fun r M hn=>s₁.frame r M fun h=>hn (wrs r h),?_,s₁.tape,s₁.os,s₁.out⟩;rintro r ⟨x,q,lx,h1,F,C,rfl⟩ M
 by_cases e1:x=V.next
 ·subst e1;rw[Ren.cy] at C;cases C;exact wrs _ (s₁.wr _ ⟨b₁,_,l₁,g₁,Z,hl₁,Z⟩ M)
 exact⟨x,q,lx,(nz x q e1 h1).2,F,hold x lx e1 C,Z⟩
theorem EB (hi:Inv O V w) {b vb:Pos} {cells cells' vc:List J} {e ve:Nat} {l lv:Loc} (hb:V.m.get b=some (.row cells e false)) (u:V.m.get vb=some (.row vc ve false)) (A:O b=some l) (C:O vb=some lv)
  (hne:b≠vb) {ρ₁:Ren} {d:N} {w₁:World} (i₁:Inv ρ₁ d w₁) (s₁:eF O (fp V b (.row cells' e false) vb (.row vc ve false)) w ρ₁ d w₁) {b₁:Pos} {l₁:Loc} {cs₁:List J} {o₁ k:Nat}
  (g₁:d.m.get b₁=some (.row cs₁ e false)) (hl₁:ρ₁ b₁=some l₁) (gv:d.m.get vb=some (.row vc ve false)) (hne₁:b₁≠vb) (E:fj vc=true) (hk:o₁+k<=cs₁.length) (F:fj ((cs₁.drop o₁).take k)=true):
  Inv (O.with V.next ⟨l₁.da,l₁.sh+o₁,l₁.cells-o₁⟩) ((V.drop b).alloc (.row ((cs₁.drop o₁).take k) e false)) w₁/\
   eF O V w (O.with V.next ⟨l₁.da,l₁.sh+o₁,l₁.cells-o₁⟩) ((V.drop b).alloc (.row ((cs₁.drop o₁).take k) e false)) w₁:=hi.of (Hz hi hb u A C hne i₁ s₁ g₁ hl₁ gv hne₁ E hk F)
theorem EJ {r:KR} {v:J} {V':N} (h:tC r= .ret v V'):r= .ret v V':=by
 unfold tC at h
 grind
theorem EI (r:KR) (v:J) (V':N):tC r≠ .jE v V':=by
 unfold tC
 grind
theorem Et {ih:jx} (hS:Sound P G ih) {f:Nat} {args:List J} {xs:Array Value} {V':N} {v:J} (h:Jq P G ih f args V= .ret v V') (hi:Inv O V w) (hg:GR O G) (hx:cT O args xs.toList)
  (rl:Option Nat) (m:Nat) {R:Ending->World->Prop} (X:∀(ρ':Ren) (w':World) (x:Value),Inv ρ' V' w'->eF O V w ρ' V' w'->VR ρ' v x->R (.returned x) w'):CallsIn (kN rl) m P f xs w R:=by
 unfold Jq at h;split at h
 ·rename_i b off n sz i vb voff q mc;split at h
  ·rename_i cells e vc ve hb K;rw[bu] at h;split at h
   ·rename_i hc;simp only[bA_,nE_,Nat.beq_eq,bT] at hc;obtain⟨hne,a3,ab,a4,ac,hlen⟩:=hc;subst ab;have L:b≠vb:=fun e=>by subst e;rw[nH] at hne;simp at hne
    split at h
    ·rename_i u r1 n2 r2 ad ai;rw[bu] at h;split at h
     ·rename_i hq;rw[bA_] at hq;have en:=nB hq.1;have er:=nr hq.2;subst en;subst er;cases h;obtain⟨x1,rr,e1,hs,al⟩:=hx.cons_inv;obtain⟨x2,rr',rfl,a5,am⟩:=al.cons_inv;obtain⟨x3,rr'',rfl,an,ao⟩:=am.cons_inv;have:=ao.dY;subst this;simp only[VR] at hs;obtain⟨l,hl,hd⟩:=hs
      have ap:∃c,x1= .slice (some ⟨l.da,l.sh+off,none⟩) n c/\n<=c/\off+c*sz=l.cells:=by
       grind
      obtain⟨c,rfl,a9,aa⟩:=ap;have hvv':=an;simp only[VR] at hvv';obtain⟨lv,aq,_⟩:=hvv'
      have go:∀(cells':List J) (cap:nL) (okc:nL->Nat->Bool),(∀x,fR O l (.row cells e false) x->fR O l (.row cells' e false) x)->
        vf vb vc ve e sz (lV P G ih f [.slice b off n cap,i,.slice vb voff 1 (.known mc)]<|fp V b (.row cells' e false) vb (.row vc ve false)) okc=some (u,r1)->
        VR O (.slice b off n cap) (.slice (some ⟨l.da,l.sh+off,none⟩) n c)->
        (∀C A E u l1 F x,okc C u=true->1<=u->F A=some l1->VR F (.slice A E u C) x->∃c',x= .slice (some ⟨l1.da,l1.sh+E,none⟩) u c'/\u<=c'/\E+c'*sz=l1.cells)->
        CallsIn (kN rl) m P f xs w R:=by
       intro cells' cap okc M d a2 av;unfold vf at d;split at d
       ·rename_i A E bb C σ1 I;split at d
        ·rename_i bd be bf bi g1 gv;rw[bu] at d;split at d
         ·rename_i Q;simp only[bA_,nE_,Nat.beq_eq,bT] at Q;obtain⟨k1,k2,k3,k4,k5,k6,k7,k8⟩:=Q;cases d;have T:A≠vb:=fun e=>by subst e;rw[nH] at k2;simp at k2
          have ev:=nr k3;subst ev;subst k4;subst k5;have hiL:=Nk hi (o₁:=.row cells' e false) hb K hl Z M;refine lW hS I hiL hg ?_ rl m fun F w1 x i1 s1 U=>?_
          ·grind [cT.cons]
          obtain⟨l1,W⟩:∃l1,F A=some l1:=by
           cases C<;>simp only[VR] at U
           ·grind
           ·grind
           grind
          obtain⟨c',rfl,ax,bk⟩:=av C A E u l1 F x k1 k6 W U;rw[dp,dF] at k8 X;obtain⟨iJ,sJ⟩:=EB (k:=u*sz) hi hb K hl aq L i1 s1 g1 W gv T ac k7 k8;refine X _ w1 _ iJ sJ ?_;simp only[VR];refine⟨_,Ren.cy _ _ _,.inl ⟨c',Z,ax,?_⟩⟩
          grind
         cases d
        cases d
       cases d
      by_cases aE:c=n
      ·subst aE;refine go cells (.known c) (EA sz) (fun _ h=>h) ad (by simp only[VR];simp_all) fun C A E u l1 F x h1 h2 h3 h4=>?_
       unfold EA at h1
       grind [nB,VR]
      have a0:n+1<=c:=by omega
      refine go (gg (takeN cells (off+n*sz))<|Gz sz .any) (.least (Nat.succ n) sz) (Al sz) (fun x ho=>?_) ai (by simp only[VR];simp_all) fun C A E u l1 F x h1 h2 h3 h4=>?_
      ·obtain⟨cc,fr,h1,h2,h3,h4,h5⟩:=ho;have hmul:(n+1)*sz<=c*sz:=nM_ _ a0;have bl:(n+1)*sz=n*sz+sz:=Nat.succ_mul n sz;refine⟨cc,fr,h1,h2,?_,fun j v hv=>?_,h5⟩
       ·rw[dH,dp,xm,lA_,lT_,List.length_replicate];omega
       rw[dH,dp,xm] at hv
       by_cases hj:j<off+n*sz
       ·grind
       have a1:j<(cells.take (off+n*sz)++List.replicate sz J.any).length:=(gA.1 hv).1;rw[lA_,lT_,List.length_replicate] at a1;rw[gR_ (by simp_all),List.getElem?_replicate] at hv;split at hv
       ·cases hv;have:l.sh+j<cc.size:=by omega
        exact⟨cc[l.sh+j],aG_ this,by simp only[VR]⟩
       cases hv
      unfold Al at h1;split at h1
      ·rename_i a s;rw[bA_,nE_] at h1
       grind [nB,VR]
      cases h1
     cases h
    cases h
   cases h
  cases h
 exact lW hS h hi hg hx rl m X
theorem GR.size (hi:Inv O V w) (b:GR O G):G.gl<=w.heap.size:=by
 cases aa:G.gl with
 | zero=>exact Nat.zero_le _
 | succ g=>
  obtain⟨c,hc⟩:=b g oM;have:=hi.da _ _ hc;exact this
theorem r6 (hi:Inv O V w) (A:GR O G):∀(l:List (Nat×List J)),tv G.gl V l=true->∀x∈l,sS w x
 | [],_,x,hx=>by cases hx
 | y::l,h,x,hx=>by
  have h':(bif Nat.ble (Nat.succ y.1) G.gl then(match V.m.get y.1 with
   | some (.row cells _ true)=>bif fj y.2 then(bif pP cells y.2 then tv G.gl V l else false) else false
   | _=>false) else false)=true:=h
  rw[bu] at h';split at h'
  ·rename_i b;rw[nE_] at b;split at h'
   ·rename_i cells e hb;rw[bu] at h';split at h'
    ·rename_i hf;rw[bu] at h';split at h'
     ·rename_i he;have:=nr he;subst this;rcases mQ_.1 hx with rfl | hx
      ·obtain⟨cn,hc⟩:=A x.1 b;obtain⟨c,fr,h1,C,E,h4,_⟩:=hi.row hb hc;have d:c.size=cn:=by simpa using C
       have u:x.2.length<=cn:=E;refine⟨c,e,fr,h1,by rw[d];exact u,fun i v hv=>?_⟩;obtain⟨z,hz,aa⟩:=h4 i v hv;simp only[nA_] at hz
       grind [mT,j0]
      exact r6 hi A l h' x hx
     cases h'
    cases h'
   cases h'
  cases h'
theorem rp {ih:jx} (d:Sound P G ih) {f:Nat} {args:List J} {xs:Array Value} {V':N} {v:J} (h:kb P G ih f args V= .ret v V') (hi:Inv O V w) (b:GR O G) (hx:cT O args xs.toList)
  (rl:Option Nat) (m:Nat) {R:Ending->World->Prop} (A:∀(ρ':Ren) (w':World) (x:Value),Inv ρ' V' w'->eF O V w ρ' V' w'->VR ρ' v x->R (.returned x) w'):CallsIn (kN rl) m P f xs w R:=by
 unfold kb at h;cases hk:G.x6 f args V with
 | some u=>
  rw[hk] at h;obtain⟨uv,us⟩:=u;dsimp only at h;cases h;refine rB rl<|callsIn_wide.2 ?_;refine(d.cx.x6 f args V v V' hk O w xs hi b hx).mono fun e w' ⟨x,ρ',he,hv,i',s'⟩=>?_
  subst he;exact A ρ' w' x i' s' hv
 | none=>
 rw[hk] at h;dsimp only at h;cases C:G.Ld f args with
 | some u=>
  rw[C] at h;dsimp only at h;rw[bu] at h;split at h
  ·rename_i hf;simp only[bA_] at hf;obtain⟨E,F,I⟩:=hf;cases h;refine rB rl<|callsIn_wide.2 ?_;refine(d.cx.Ld f args v C w xs (GR.size hi b) ⟨hi.nz.size,hi.nz.same⟩ (r6 hi b _ I)<|tW E hx).mono fun e w' ⟨x,he,hv,hk⟩=>?_
   subst he;obtain⟨i',s'⟩:=hk.inv hi;exact A O w' x i' s'<|mT F hv
  cases h
 | none=>
  rw[C] at h;dsimp only at h;split at h
  ·cases h
  rw[bu] at h;split at h
  ·have h:=EJ h;unfold Jr at h;rw[bu] at h
   grind [lW,Et]
  exact lW d h hi b hx rl m A
theorem IU {ih:jx} (b:Sound P G ih) {f:Nat} {args:List J} {xs:Array Value} {V':N} {v:J} (h:kb P G ih f args V= .jE v V') (hi:Inv O V w) (d:GR O G) (hx:cT O args xs.toList)
  (rl:Option Nat) (m:Nat) {R:Ending->World->Prop} (A:∀(ρ':Ren) (w':World) (x:Value),Inv ρ' V' w'->eF O V w ρ' V' w'->VR ρ' v x->R (.panicked [{v:=x,recovered:=false}]) w'):CallsIn (kN rl) m P f xs w R:=by
 unfold kb at h;cases hk:G.x6 f args V with
 | some u=>grind
 | none=>
 rw[hk] at h;dsimp only at h;split at h
 ·grind
 split at h
 ·cases h
 rw[bu] at h;split at h
 ·exact absurd h<|EI _ _ _
 exact yj b h (fun n h=>by cases h) hi d hx rl m fun ρ' w' E i s ⟨x,C,hv⟩=>by subst C;exact A ρ' w' x i s hv
theorem yS (e:Ex) (hp:yR e=false):(tu e).isNone=Bg e:=by cases e<;>first | rfl | cases hp
theorem Rs.Mh {e:Ex} {E:Exit} (hp:yR e=false) (h:Rs O e E):E=Ev.Mh e:=by cases e<;>first | exact h | cases hp
theorem E7 {l:Nat} {R:Ending->World->Prop} {e:Ex} (hp:yR e=false) {a:Act} (h:∃v w',(Instr.endRound l<|tu e).run P w= .ok v w'/\R (.returned v) w'):roundPost P l R (Mh e) a w:=by
 cases e<;>first | exact h | cases hp
theorem CW {ih:jx} (hS:Sound P G ih) {b:Pos} {l:Loc} {args:List J} {xs:Array Value} {V':N} {v:J} (h:lN ih b args V= .ret v V') (hi:Inv O V w) (hg:GR O G) (hx:cT O args xs.toList) (hl:O b=some l)
  (rl:Option Nat) (m:Nat) {R:Ending->World->Prop} (hR:∀(ρ':Ren) (w':World) (x:Value),Inv ρ' V' w'->eF O V w ρ' V' w'->VR ρ' v x->R (.returned x) w'):
  ∃f tmps assign body,(Instr.yield l.da xs).run P w= .ok (.round l.da f tmps assign body) w/\RoundIn (kN rl) m P l.da f tmps assign body w R:=by
 unfold lN at h;cases hb:V.m.get b with
 | none=>rw[hb] at h;cases h
 | some o=>
 rw[hb] at h;cases o with
 | loop state pending tmps n params assign body df=>
  dsimp only at h;cases hp:tJ n params args tmps with
  | none=>rw[hp] at h;cases h
  | some t=>
  rw[hp] at h;dsimp only at h;obtain⟨x,hh,fn,tmps',l',rfl,a0,ap⟩:=hi.obj b _ l hb hl;obtain⟨hlen,ht⟩:=sn params args tmps t tmps' xs.toList hp ap hx;refine⟨fn,_,assign,body,run_yield hh (by simpa using hlen.symm),?_⟩
  have M:((params.toArray.zip xs).foldl (fun tmps (t,a)=>tmps.setIfInBounds t a) tmps')=(params.zip xs.toList).foldl (fun tmps (t,a)=>tmps.setIfInBounds t a) tmps':=by
   rw[<-Array.foldl_toList,Array.toList_zip]
  refine roundIn_of_wpIn (l5 rl _) ?_;rw[Mj];dsimp only;rw[M];cases hc:ih assign t n [] (some b) V with
  | err k=>rw[hc] at h;cases h
  | ok e t₁ d₁ V1=>
  rw[hc] at h;cases e with
  | normal=>
   cases d₁ with
   | nil=>
    dsimp only at h;refine hS.run assign t n [] (some b) V _ t₁ [] V1 hc O w _ (some l.da) m _ hi hg ht Z ⟨l,hl,Z⟩ fun ρ₁ w₁ a₁ hi₁ st₁ ht₁ av E hE=>?_
    have hE:E= .normal:=hE;subst hE;have hl₁:=st₁.le hi b l hl;have hg₁:=hg.mono (st₁.le hi);show∃w₂,_;cases hb₁:V1.m.get b with
    | none=>rw[hb₁] at h;cases h
    | some o₁=>
    rw[hb₁] at h;cases o₁ with
    | loop L p₁ I n₁ params₁ assign1 A T=>
     cases L with
     | ready=>
      dsimp only at h;obtain⟨x₁,hh₁,U,C,W,rfl,X,aa⟩:=hi₁.obj b _ l hb₁ hl₁;obtain⟨inv₂,st₂⟩:=hi₁.putObj (o':=.loop .busy p₁ I n₁ params₁ assign1 A T) hb₁ hl₁ Z Z (x:=.loop {state:=.busy,pending:=p₁,fn:=U,tmps:=C,params:=params₁.toArray,assign:=assign1,body:=A,defers:=W.da}) ⟨U,C,W,Z,X,aa⟩;refine⟨_,run_beginRound hh₁ Z,?_⟩;cases hc₂:ih body t₁ n [] (some b) (V1.setObj b (.loop .busy p₁ I n₁ params₁ assign1 A T)) with
      | err k=>rw[hc₂] at h;cases h
      | ok e₂ t₂ d₂ V2=>
      rw[hc₂] at h;cases d₂ with
      | cons _ _=>cases h
      | nil=>
      dsimp only at h;cases u:yR e₂ with
      | true=>rw[u] at h;cases h
      | false=>
      rw[u] at h;simp only[cond_false] at h;refine hS.run body t₁ n [] (some b) _ e₂ t₂ [] V2 hc₂ ρ₁ _ a₁ (some l.da) m _ inv₂ hg₁ ht₁ av ⟨l,hl₁,Z⟩ fun ρ₃ w₃ a₃ hi₃ ab a1 a2 E hE=>?_
      have hE:=hE.Mh u;subst hE;have hl₃:=ab.le inv₂ b l hl₁;cases hb₃:V2.m.get b with
      | none=>rw[hb₃] at h;cases h
      | some o₃=>
      rw[hb₃] at h;cases o₃ with
      | loop ao p₃ Q n₃ params₃ assign3 K ax=>
       dsimp only at h;cases h;obtain⟨x₃,hh₃,ac,F,ad,rfl,ai,al⟩:=hi₃.obj b _ l hb₃ hl₃;have aq:(if(tu e₂).isNone then LoopState.ready else .done)=sC e₂:=by cases e₂<;>first | rfl | cases u
       obtain⟨am,aE⟩:=hi₃.putObj (o':=.loop (sC e₂) (tu e₂) Q n₃ params₃ assign3 K ax) hb₃ hl₃ Z Z
        (x:=.loop {state:=sC e₂,pending:=tu e₂,fn:=ac,tmps:=F,params:=params₃.toArray,assign:=assign3,body:=K,defers:=ad.da}) ⟨ac,F,ad,Z,ai,al⟩
       refine E7 u ⟨.bool<|Bg e₂,_,?_,hR ρ₃ _ _ am (((st₁.trans st₂).trans ab).trans aE) (by simp only[VR])⟩;rw[run_endRound _ hh₃,yS _ u];have an:(if Bg e₂=true then LoopState.ready else .done)=sC e₂:=by rw[<-yS _ u];exact aq
       rw[an]
      | _=>cases h
     | _=>cases h
    | _=>cases h
   | cons _ _=>cases h
  | _=>cases h
 | _=>cases h
theorem Hm {ih:jx} (u:Sound P G ih) {o:Oper} {r:HR} {res:Result Next} {v:J} {V':N} (hi:Inv O V w) (A:GR O G) (C:xQ P O V w r res) (h:kA P G ih r= .ret v V') (rl:Option Nat) (m:Nat) {a:Act} {next:Act->World->Prop} {Q:Exit->Act->World->Prop}
  (d:∀(ρ':Ren) (w':World) (x:Value),Inv ρ' V' w'->eF O V w ρ' V' w'->VR ρ' v x->next (a.put o.dst x) w'):o.uponIn (kN rl) m P a next Q res:=by
 cases C with
 | val hv b st=>
  cases h;rw[Oper.uponIn_value]
  grind
 | skip b st=>
  cases h;rw[Oper.uponIn_skip];exact d _ _ _ b st uW
 | enter hv=>
  rw[Oper.uponIn_enter];exact⟨pR rl m,rp u h hi A hv rl _ fun ρ' w' x i s q=>d ρ' w' x i s q⟩
 | round hv hl E=>
  subst E
  obtain⟨f,tmps,assign,body,h1,F⟩:=CW u h hi A hv hl rl (m-1) (R:=fun
   | .returned v,w''=>next (a.put o.dst v) w''
   | .panicked chain,w''=>Q (.panic chain) a w''
   | .outgrown,_=>LetsOut Q) (fun ρ' w' x i s q=>d ρ' w' x i s q)
  rw[h1,Oper.uponIn_round];exact⟨pR rl m,F⟩
 | jE hv=>cases h
theorem E6 {ih:jx} {l:Pos} {args:List J} {v:J} {V':N}:lN ih l args V≠ .jE v V':=by
 intro h;unfold lN at h
 repeat' (first | (cases h;done) | (rw[bu] at h) | split at h)
theorem Mc {ih:jx} (d:Sound P G ih) {o:Oper} {r:HR} {res:Result Next} {v:J} {V':N} (hi:Inv O V w) (u:GR O G) (A:xQ P O V w r res) (h:kA P G ih r= .jE v V') (rl:Option Nat) (m:Nat) {a:Act} {next:Act->World->Prop} {Q:Exit->Act->World->Prop}
  (C:∀(ρ':Ren) (w':World) (x:Value),Inv ρ' V' w'->eF O V w ρ' V' w'->VR ρ' v x->Q (.panic [{v:=x,recovered:=false}]) a w'):o.uponIn (kN rl) m P a next Q res:=by
 cases A with
 | val hv b st=>cases h
 | skip b st=>cases h
 | enter hv=>
  rw[Oper.uponIn_enter];exact⟨pR rl m,IU d h hi u hv rl _ fun ρ' w' x i s q=>C ρ' w' x i s q⟩
 | round hv hl hr=>exact absurd h E6
 | jE hv=>
  cases h
  grind [Oper.uponIn_panic,eF.refl]
theorem Aa {ih:jx} {r:HR} {v:J} {V':N} (h:kA P G ih r= .jE v V') (n:Nat):r≠ .err n:=by
 intro e;subst e;cases h
theorem MH {ih:jx} (b:Sound P G ih) {ev:Operand->Option J} {o:Oper} {a:Act} {v:J} {V':N} (hi:Inv O V w) (d:GR O G) (u:ER O ev a.eval o.op) (h:kA P G ih (dM P G ev V o.op)= .jE v V') (rl:Option Nat) (m:Nat) {next:Act->World->Prop} {Q:Exit->Act->World->Prop}
  (A:∀(ρ':Ren) (w':World) (x:Value),Inv ρ' V' w'->eF O V w ρ' V' w'->VR ρ' v x->Q (.panic [{v:=x,recovered:=false}]) a w'):o.wpIn (kN rl) m P a w next Q:=by
 have hne:=Aa h;refine⟨fun f _=>l5 rl f,?_⟩;rw[Oper.semAt_eq _ _ _<|uB hne];exact Mc b hi d (CE b.cx.ov hi u Z hne) h rl m A
theorem BM {ih:jx} {r:HR} {v:J} {V':N} (h:kA P G ih r= .ret v V') (n:Nat):r≠ .err n:=by
 intro e;subst e;cases h
theorem CD {ih:jx} (b:Sound P G ih) {ev:Operand->Option J} {o:Oper} {a:Act} {v:J} {V':N} (hi:Inv O V w) (d:GR O G) (u:ER O ev a.eval o.op) (h:kA P G ih (dM P G ev V o.op)= .ret v V') (rl:Option Nat) (m:Nat) {next:Act->World->Prop} {Q:Exit->Act->World->Prop}
  (A:∀(ρ':Ren) (w':World) (x:Value),Inv ρ' V' w'->eF O V w ρ' V' w'->VR ρ' v x->next (a.put o.dst x) w'):o.wpIn (kN rl) m P a w next Q:=by
 have hne:=BM h;refine⟨fun f _=>l5 rl f,?_⟩;rw[Oper.semAt_eq _ _ _<|uB hne];exact Hm b hi d (CE b.cx.ov hi u Z hne) h rl m A
theorem tF {ih:jx} (F:Sound P G ih) {ops:Array Oper} {n m:Nat} {d:List DE} (rl:Option Nat) {Q:Exit->Act->World->Prop} {e:Ex} {t':PT J} {d':List DE} {V':N}:
  ∀(l:List Oper) (i:Nat),ops.toList.drop i=l->∀(t:PT J) (V:N) (O:Ren) (w:World) (a:Act),BU d (se P G ih ops n d l t V)= .ok e t' d' V'->Inv O V w->GR O G->TR O t n a.tmps->DR O d a.defers->
   (∀(ρ':Ren) (w':World) (a':Act),Inv ρ' V' w'->eF O V w ρ' V' w'->TR ρ' t' n a'.tmps->DR ρ' d' a'.defers->Qx Q ρ' e a' w')->wpOpsIn (kN rl) m P ops Q (List.range' i l.length) a w
 | [],i,hl,t,V,O,w,a,h,hi,A,u,hd,C=>by
  have h':CR.ok .normal t d V= .ok e t' d' V':=h;cases h';exact C O w a hi (eF.refl _ _ _) u hd _ Z
 | o::l,i,hl,t,V,O,w,a,h,hi,A,u,hd,C=>by
  have I:ops[i]? =some o:=by
   rw[<-aT_];have:(ops.toList.drop i)[0]? =some o:=by rw[hl];rfl
   simpa using this
  have E:ops.toList.drop (i+1)=l:=by
   rw[<-List.drop_drop,hl];rfl
  have h':BU d (ig P G ih true ops n o t V<|se P G ih ops n d l)= .ok e t' d' V':=h;unfold ig at h';simp only[List.length_cons,List.range'_succ,wpOpsIn,I];cases hw:bF ops t o with
  | none=>rw[hw] at h';cases h'
  | some b=>
   rw[hw] at h';rw[Bf hw u];cases b with
   | false=>
    dsimp only at h';cases hp:dA t n o.dst unit with
    | none=>rw[hp] at h';cases h'
    | some t₁=>
     rw[hp] at h';simp only[Bool.false_eq_true,if_false];exact⟨fun f _=>l5 rl f,tF F rl l (i+1) E t₁ V O w _ h' hi A (u.put hp uW) (by rw[put_defers];exact hd) C⟩
   | true=>
    dsimp only at h';cases he:kA P G ih (dM P G (bn G t) V o.op) with
    | err k=>rw[he] at h';cases h'
    | jE v K=>
     rw[he] at h';have h':CR.ok (.jE v) t d K= .ok e t' d' V':=h';cases h';simp only[if_true];refine MH F hi A (NH _ A u) he rl m fun ρ₁ w₁ x hi₁ st₁ hv=>?_
     have hle:=st₁.le hi;exact C ρ₁ w₁ a hi₁ st₁ (u.mono hle) (hd.mono hle) _ ⟨x,Z,hv⟩
    | ret v K=>
     rw[he] at h';dsimp only at h';cases hp:dA t n o.dst v with
     | none=>rw[hp] at h';cases h'
     | some t₁=>
      rw[hp] at h';simp only[if_true];refine CD F hi A (NH _ A u) he rl m fun ρ₁ w₁ x hi₁ st₁ hv=>?_
      have hle:=st₁.le hi
      exact tF F rl l (i+1) E t₁ K ρ₁ w₁ _ h' hi₁ (A.mono hle) ((u.mono hle).put hp hv) (by rw[put_defers];exact hd.mono hle)
       fun ρ' w' a' i' s'=>C ρ' w' a' i' (st₁.trans s')
end
theorem w4 {P:Program} {V V':N} (he:∀(b:Pos) (o:cu),V.m.get b=some o->V'.m.get b=some o) {u:Option TypeId} {x:Option J} {v:J} (h:nC P u V x=some v):nC P u V' x=some v:=by
 unfold nC at h⊢
 grind
theorem H3 {P:Program} {ev:Operand->Option J} {V V':N} {op:Op} {v:J} (he:∀b o,V.m.get b=some o->V'.m.get b=some o) (h:eY P ev V op=some v):eY P ev V' op=some v:=by
 cases op with
 | load t x=>
  grind [eY]
 | lookup t x i ok=>
  simp only[eY] at h⊢
  grind
 | call c=>
  grind [eY]
 | convert src dst x=>
  simp only[eY] at h⊢;split at h
  ·grind
  ·split at h
   ·rw[bu] at h⊢;split at h
    ·cases h
    rename_i hc;rw[if_neg hc];exact w4 he h
   cases h
  ·rw[bu] at h⊢;split at h
   ·rename_i hc;rw[if_pos hc];exact w4 he h
   cases h
  cases h
 | _=>exact h
theorem qn {ops:Array Oper} {i j:Nat}:waits ops i j=true↔∃o,ops[i]? =some o/\∃e∈o.after,Region.binds .any e=true/\e.on=j:=by
 unfold waits;cases h:ops[i]? with
 | none=>simp
 | some o=>
  simp only[Option.map_some,Option.getD_some,oJ_,exists_eq_left',bA_,beq_iff_eq,Array.any_iff_exists];constructor
  ·grind
  rintro ⟨e,he,h1⟩;obtain⟨q,hq,rfl⟩:=Array.getElem_of_mem he
  grind
structure Shape (P:Program) (ops:Array Oper) (A:Array Nat):Prop where
 dep:∀i j,waits ops i j=true->j<ops.size
 qZ:∀i j,i<ops.size->j<ops.size->qZ A i j=true->waits ops i j=true∨∃d,waits ops i d=true/\Ev.qZ A d j=true
 uniq:∀i j k,eO ops i=some k->eO ops j=some k->i=j
 look:∀(i:Nat) (o:Oper) (j k:Nat),ops[i]? =some o->eO ops j=some k->k∈slotsOf ops o->Ev.qZ A i j=true∨(fK P ops i=false/\(j=i∨Ev.qZ A j i=true))
 dst:∀(i:Nat) (o:Oper),ops[i]? =some o->fK P ops i=true->∃k,o.dst=some k
theorem lq {ops:Array Oper} {i k:Nat} (h:eO ops i=some k):i<ops.size:=by
 grind [eO]
theorem hZ {ops:Array Oper} {i:Nat} {o:Oper} (h:ops[i]? =some o):eO ops i=o.dst:=by simp[eO,h]
theorem ji (m i:Nat):hasB m i=m.testBit i:=by
 rw[Nat.testBit_eq_decide_div_mod_eq];show Nat.beq ((m >>> i) &&& 1) 1=_
 grind [Nat.shiftRight_eq_div_pow,Nat.beq]
theorem OK (w:Nat):Nat.beq (Nat.land w 1) 1=w.testBit 0:=by
 have:=ji w 0;exact this
theorem ub (i j:Nat):(bit i).testBit j=decide (i=j):=by
 show(1 <<< i).testBit j=_;rw[Nat.one_shiftLeft,Nat.testBit_two_pow]
theorem l9 (m k j:Nat):(Nat.lor m k).testBit j=(m.testBit j || k.testBit j):=Nat.testBit_or m k j
theorem jN {j:Nat}:∀{l:List Nat},(mA l).testBit j=true↔j∈l
 | []=>by simp[mA]
 | i::l=>by
  show(Nat.lor (bit i)<|mA l).testBit j=true↔_;rw[l9,ub,Bool.or_eq_true,jN,mQ_,decide_eq_true_eq]
  grind
theorem zj {m k:Nat} (h:AW m k=true) (j:Nat) (hj:m.testBit j=true):k.testBit j=true:=by
 have e:m &&& k=m:=nB h
 grind
theorem Fk {m k:Nat} (h:AW m k=false):∃j,m.testBit j=true/\k.testBit j=false:=by
 apply Classical.byContradiction;intro hn
 have e:m &&& k=m:=Nat.eq_of_testBit_eq fun j=>by
  simp_all
 have:AW m k=true:=by
  show Nat.beq (m &&& k) m=true
  simp_all
 simp_all
theorem qN {j:Nat}:∀{L:List RA} {w:Nat},(wT L w).testBit j=true->∃d x,L[d]? =some x/\w.testBit d=true/\x.a.testBit j=true
 | [],w,h=>by simp[wT] at h
 | x::L,w,h=>by
  have h':(Nat.lor (@Bool.rec (fun _=>Nat) 0 x.a<|Nat.beq (Nat.land w 1) 1)<|wT L<|w >>> 1).testBit j=true:=h;rw[l9,Bool.or_eq_true,OK] at h';rcases h' with h' | h'
  ·cases hw:w.testBit 0 with
   | true=>rw[hw] at h';exact⟨0,x,Z,hw,h'⟩
   | false=>
    rw[hw] at h';have h'':(0:Nat).testBit j=true:=h';simp at h''
  obtain⟨d,y,h1,b,m⟩:=qN h';rw[Nat.testBit_shiftRight] at b;exact⟨d+1,y,by simpa using h1,by rw[Nat.add_comm];exact b,m⟩
theorem rI:∀(rows:List Row) (L:List RA),(KA rows L).map (·.r)=L.map (·.r)++rows
 | [],L=>by show L.map (·.r)=_;simp
 | r::rows,L=>by
  show(KA rows<|gg L [⟨r,Nat.lor r.w<|wT L r.w⟩]).map (·.r)=_
  rw[rI rows,dH];simp
theorem AH {P:Program} {ops:Array Oper} {i:Nat} {o:Oper} (h:ops[i]? =some o):∃x,(iR P ops)[i]? =some x/\x.r=xp P ops o:=by
 have e:=rI (x8 (xp P ops) ops.toList) [];rw[kQ] at e
 have e':((iR P ops).map (·.r))[i]? =some (xp P ops o):=by
  unfold iR;rw[kQ,e];simp[h]
 simp_all
theorem KB {P:Program} {ops:Array Oper} {i:Nat} {x:RA} (h:(iR P ops)[i]? =some x):∃o,ops[i]? =some o/\x.r=xp P ops o:=by
 have e:=rI (x8 (xp P ops) ops.toList) [];rw[kQ] at e
 have e':((iR P ops).map (·.r))[i]? =ops[i]?.map (xp P ops):=by
  unfold iR;rw[kQ,e];simp
 grind
theorem CX {P:Program} {ops:Array Oper} {i j:Nat} {o:Oper} (h:ops[i]? =some o):(xp P ops o).w.testBit j=true↔waits ops i j=true:=by
 rw[qn];show(mA _).testBit j=true↔_;rw[jN,List.mem_filterMap]
 simp_all
theorem yh {α:Type} {f:Nat->α->Bool}:∀{l:List α} {i:Nat},allI f l i=true->∀(j:Nat) (x:α),l[j]? =some x->f (i+j) x=true
 | [],i,_,j,x,hx=>by simp at hx
 | y::l,i,h,j,x,hx=>by
  have h': @Bool.rec (fun _=>Bool) false (allI f l (i+1)) (f i y)=true:=h;cases hf:f i y with
  | false=>rw[hf] at h';cases h'
  | true=>
   rw[hf] at h';cases j with
   | zero=>simp at hx;subst hx;exact hf
   | succ j=>
    have:=yh h' j x (by simpa using hx);rw[show i+(j+1)=i+1+j by omega];exact this
theorem pJ {α:Type} {f:Nat->α->Bool} {l:List α} (h:allI f l 0=true) (j:Nat) (x:α) (hx:l[j]? =some x):f j x=true:=by
 have:=yh h j x hx
 simp_all
theorem lh {a b:Bool} (h:(bif a then b else false)=true):a=true/\b=true:=by cases a<;>simp_all
def zM (P:Program) (ops:Array Oper):Array Nat:=((iR P ops).map (·.a)).toArray
theorem rR {P:Program} {ops:Array Oper} {i j:Nat} {x:RA} (h:(iR P ops)[i]? =some x):qZ (zM P ops) i j=x.a.testBit j:=by
 unfold qZ zM
 simp_all
theorem BZ {P:Program} {ops:Array Oper} {i:Nat} {o:Oper} (h:ops[i]? =some o):jk P ops i=(xp P ops o).h:=by unfold jk;rw[h];rfl
theorem wI {P:Program} {ops:Array Oper} {i:Nat} {o:Oper} (h:ops[i]? =some o):fK P ops i=(xp P ops o).k:=by unfold fK;rw[h];rfl
theorem ES {i j:Nat} {x y:RA} (h:Kk i x j y=true) (hd:y.r.dm=mA y.r.d.toList):CG i x j y=true:=by
 unfold Kk at h;cases hb:Nat.beq (Nat.land (Nat.lor x.r.dm x.r.s) y.r.dm) 0 with
 | false=>rw[hb] at h;exact h
 | true=>
  have e:(x.r.dm ||| x.r.s) &&& y.r.dm=0:=nB hb;unfold CG;cases hy:y.r.d with
  | none=>rfl
  | some k=>
   have hk:y.r.dm.testBit k=true:=by rw[hd,hy];exact jN.2 (by simp)
   have h0:((x.r.dm ||| x.r.s) &&& y.r.dm).testBit k=false:=by simp_all
   rw[Nat.testBit_and,hk,Bool.and_true,Nat.testBit_or,Bool.or_eq_false_iff] at h0
   grind [ji]
theorem KL {P:Program} {ops:Array Oper} (h:KK (iR P ops) ops.size=true):Shape P ops (zM P ops):=by
 have key:∀i o,ops[i]? =some o->∃x,(iR P ops)[i]? =some x/\x.r=xp P ops o/\x.r.w<2 ^ ops.size/\(x.r.k=true->x.r.d.isSome=true)/\AW x.a (Nat.lor x.r.w<|wT (iR P ops) x.r.w)=true/\
   ∀j y,(iR P ops)[j]? =some y->CG i x j y=true:=by
  intro i o b;obtain⟨x,hx,m⟩:=AH (P:=P) b;have h1:=pJ h i x hx;obtain⟨M,h1⟩:=lh h1;obtain⟨k2,h1⟩:=lh h1;obtain⟨Q,h1⟩:=lh h1;refine⟨x,hx,m,?_,fun hk=>?_,Q,fun j y hy=>ES (pJ h1 j y hy) (by obtain⟨o',_,A⟩:=KB hy;rw[A];rfl)⟩
  ·rw[uZ] at M;have:bit ops.size=2 ^ ops.size:=Nat.one_shiftLeft _;omega
  simp_all
 have pair:∀i o j o' k,ops[i]? =some o->ops[j]? =some o'->o'.dst=some k->(o.dst=some k->j=i)/\(k∈slotsOf ops o->qZ (zM P ops) i j=true∨(fK P ops i=false/\(j=i∨qZ (zM P ops) j i=true))):=by
  intro i o j o' k b E hk;obtain⟨x,hx,m,_,_,_,hp⟩:=key i o b;obtain⟨y,hy,A⟩:=AH (P:=P) E;have h1:=hp j y hy;unfold CG at h1;have hd:y.r.d=some k:=by rw[A];exact hk
  rw[hd] at h1;have F:(bif (bif hasB x.r.dm k then Nat.beq j i else true) then(bif hasB x.r.s k then(bif hasB x.a j then true else(bif x.r.k then false else(bif Nat.beq j i then true else hasB y.a i))) else true) else false)=true:=h1;obtain⟨g1,u⟩:=lh F;refine⟨fun G=>?_,fun I=>?_⟩
  ·have:hasB x.r.dm k=true:=by
    rw[ji,m];show(mA o.dst.toList).testBit k=true;rw[jN,G];simp
   simp_all
  have:hasB x.r.s k=true:=by
   rw[ji,m];exact jN.2 I
  rw[this] at u;simp only[cond_true] at u;rw[rR hx,rR hy,wI (P:=P) b,<-m];cases C:hasB x.a j with
  | true=>rw[ji] at C;exact .inl C
  | false=>
   rw[C] at u;simp only[cond_false] at u;cases K:x.r.k with
   | true=>simp_all
   | false=>
    rw[K] at u;simp only[cond_false] at u;cases hb:Nat.beq j i with
    | true=>simp_all
    | false=>rw[hb] at u;rw[ji] at u;simp_all
 refine⟨fun i j hw=>?_,fun i j hi hj C=>?_,fun i j k hi hj=>?_,fun i o j k b hj hk=>?_,fun i o b hl=>?_⟩
 ·obtain⟨o,b,_⟩:=qn.1 hw;obtain⟨x,hx,m,aa,_⟩:=key i o b;have:x.r.w.testBit j=true:=by rw[m];exact(CX b).2 hw
  apply Classical.byContradiction
  grind [Nat.testBit_lt_two_pow,Nat.lt_of_lt_of_le,Nat.pow_le_pow_right]
 ·have b:ops[i]? =some ops[i]:=aG_ hi;obtain⟨x,hx,m,_,_,I,_⟩:=key i _ b;rw[rR hx] at C;have h1:=zj I j C;rw[l9,Bool.or_eq_true] at h1;rcases h1 with h1 | h1
  ·rw[m] at h1;exact .inl ((CX b).1 h1)
  obtain⟨d,y,hy,L,R⟩:=qN h1;rw[m] at L;exact .inr ⟨d,(CX b).1 L,by rw[rR hy];exact R⟩
 ·have hi':=lq hi;have hj':=lq hj;have b:ops[i]? =some ops[i]:=aG_ hi'
  grind [hZ]
 ·grind [lq,hZ]
 obtain⟨x,hx,m,_,hd,_⟩:=key i o b;rw[wI (P:=P) b,<-m] at hl;have:=hd hl;rw[m] at this;exact Option.isSome_iff_exists.1 this
def Ord (ops:Array Oper):List Nat->Prop
 | []=>True
 | i::r=>(∀j,waits ops i j=true->j∈r)/\Ord ops r
structure IE (P:Program) (ops:Array Oper) (A:Array Nat) (i:Nat) (rc:List Nat) (done:List Nat):Prop where
 lt:i<ops.size
 new:i∉done
 dep:∀j,waits ops i j=true->j∈done
 again:jk P ops i=true->∀j∈done,fK P ops j=true->qZ A i j=true∨j∈rc
 alone:jk P ops i=true->∀j,j<ops.size->j∉done->j≠i->∃e,waits ops j e=true/\e∉done
def FC (P:Program) (ops:Array Oper) (A:Array Nat):List (Nat×List Nat)->List Nat->Prop
 | [],done=>∀i,i<ops.size->i∈done
 | (i,rc)::l,done=>IE P ops A i rc done/\FC P ops A l (i::done)
theorem vM {P:Program} {ops:Array Oper}:∀(p:List (Nat×List Nat)) (D_:Nat) (done:List Nat),(∀j,D_.testBit j=true↔j∈done)->D0 (iR P ops) ops.size p D_=true->FC P ops (zM P ops) p done
 | [],D_,done,A,h=>fun i hi=>by
  have e:D_=bit ops.size-1:=nB h;rw[<-A,e,show bit ops.size=2 ^ ops.size from Nat.one_shiftLeft _,Nat.testBit_two_pow_sub_one]
  simp_all
 | (i,rc)::l,D_,done,A,h=>by
  have h':Option.rec (motive:=fun _=>Bool) false (fun x=>bif Jx (iR P ops) i rc D_ x then D0 (iR P ops) ops.size l (Nat.lor D_<|bit i) else false) (nth (iR P ops) i)=true:=h;rw[eU] at h';cases hx:(iR P ops)[i]? with
  | none=>simp_all
  | some x=>
  rw[hx] at h';obtain⟨h1,I⟩:=lh h';obtain⟨o,E,G⟩:=KB hx;have hlt:=(aS_.1 E).1;unfold Jx at h1;cases hi:hasB D_ i with
  | true=>simp_all
  | false=>
  rw[hi] at h1;obtain⟨hw,C⟩:=lh h1;refine⟨⟨hlt,fun hm=>?_,fun j hj=>?_,fun hh j hj hl=>?_,fun hh j hj hn hne=>?_⟩,vM l _ (i::done) (fun j=>?_) I⟩
  ·rw[ji] at hi
   grind
  ·grind [zj,CX]
  ·rw[BZ (P:=P) E,<-G] at hh;rw[hh] at C
   have m:∃o',ops[j]? =some o':=by
    cases b:ops[j]? with
    | some o'=>exact⟨o',Z⟩
    | none=>unfold fK at hl;simp_all
   obtain⟨o',b⟩:=m;obtain⟨y,hy,u⟩:=AH (P:=P) b;have h4:=pJ C j y hy;have d:hasB D_ j=true:=by rw[ji];exact(A j).2 hj
   rw[d] at h4;simp only[cond_true] at h4;rw[rR hx];cases F:hasB x.a j with
   | true=>rw[ji] at F;exact .inl F
   | false=>
    rw[F] at h4;rw[wI (P:=P) b,<-u] at hl;rw[hl] at h4;simp only[cond_true,cond_false] at h4;rw[ji] at h4;exact .inr<|jN.1 h4
  ·rw[BZ (P:=P) E,<-G] at hh;rw[hh] at C;have b:ops[j]? =some ops[j]:=aG_ hj;obtain⟨y,hy,u⟩:=AH (P:=P) b;have h4:=pJ C j y hy
   have d:hasB D_ j=false:=by
    grind [ji]
   rw[d] at h4;simp only[cond_false] at h4;cases hb:Nat.beq j i with
   | true=>simp_all
   | false=>
    rw[hb] at h4;simp only[cond_false] at h4
    grind [Fk,CX]
  rw[l9,ub,Bool.or_eq_true,A,mQ_,decide_eq_true_eq]
  grind
theorem Mi {P:Program} {ops:Array Oper} (h:te P ops=true):Shape P ops (zM P ops)/\FC P ops (zM P ops) (km P ops) []:=by
 obtain⟨h1,h2⟩:=lh h
 grind [KL,vM]
def Li (listed:Array Bool) (i:Nat):Prop:=listed.getD i false=true
theorem Li.lt {listed:Array Bool} {i:Nat} (h:Li listed i):i<listed.size:=by
 grind [Li]
theorem J5 {listed:Array Bool} {i:Nat} (hi:i<listed.size):listed.getD i true=false↔¬Li listed i:=by
 simp[Li,Array.getD_eq_getD_getElem?,hi]
theorem DC {listed:Array Bool} {i j:Nat} (hi:i<listed.size):Li (listed.setIfInBounds i true) j↔j=i∨Li listed j:=by
 unfold Li;simp only[Array.getD_eq_getD_getElem?,Array.getElem?_setIfInBounds]
 grind
def da:J->Option Pos
 | .ptr b _=>some b
 | .slice b _ _ _=>some b
 | .map b=>some b
 | _=>none
theorem zQ (mk:Mk) (b:Pos):da (mk.of b)=some b:=by cases mk<;>rfl
def lU (P:Program) (G:Cx) (t:PT J) (V:N) (O:Ren) (lo:Nat) (ti:PT J) (o:Oper):Prop:=
 match kindOf P o.op with
 | .pure=>∃v,du P (bn G ti) o.op=some v/\∀k,o.dst=some k->t.get (posOf k)=some v
 | .read=>∃v,eY P (bn G ti) V o.op=some v/\∀k,o.dst=some k->t.get (posOf k)=some v
 | .alloc=>∃ob mk b,eZ P (bn G ti) o.op=some (ob,mk)/\V.m.get b=some ob/\O b=none/\lo<=b.num/\b.num<V.next.num/\∀k,o.dst=some k->t.get (posOf k)=some (mk.of b)
 | .kh=>False
def qq (P:Program) (G:Cx) (ops:Array Oper) (A:Array Nat) (t₀ t:PT J) (V:N) (O:Ren) (lo:Nat) (i:Nat):Prop:=
 ∃o ti,ops[i]? =some o/\
  (∀k∈slotsOf ops o,∀j,qZ A i j=true->eO ops j=some k->ti.get (posOf k)=t.get (posOf k))/\
  (∀k∈slotsOf ops o,(∀j,eO ops j=some k->qZ A i j=false)->ti.get (posOf k)=t₀.get (posOf k))/\
  ∃bw,bF ops ti o=some bw/\(bw=false->∀k,o.dst=some k->t.get (posOf k)=some unit)/\(bw=true->lU P G t V O lo ti o)
section
variable {P:Program} {G:Cx} {ops:Array Oper} {A:Array Nat} {t₀ t t₁:PT J} {V V1:N} {O ρ₁:Ren} {lo i:Nat}
theorem wo {o:Oper} {j:Nat} {want:Bool} {k:Nat} (b:o.guard=some (j,want)) (hk:(ops[j]?).bind (·.dst)=some k):k∈slotsOf ops o:=by
 unfold slotsOf;rw[b];simp[hk]
theorem Av {o:Oper} {k:Nat} (h:Operand.tmp k∈o.op.operands):k∈slotsOf ops o:=by
 unfold slotsOf;refine List.mem_append_left _<|List.mem_filterMap.2 ⟨.tmp k,by simpa using h,Z⟩
theorem jZ {o:Oper} {ti tj:PT J} (h:∀k∈slotsOf ops o,ti.get (posOf k)=tj.get (posOf k)):bF ops ti o=bF ops tj o:=by
 grind [bF,wo]
theorem qq.agree (hp:qq P G ops A t₀ t V O lo i) (h:∀k,(eO ops i=some k∨∃j,qZ A i j=true/\eO ops j=some k)->t₁.get (posOf k)=t.get (posOf k)):qq P G ops A t₀ t₁ V O lo i:=by
 obtain⟨o,ti,b,h1,m,bw,u,h4,h5⟩:=hp;have hd:∀k,o.dst=some k->t₁.get (posOf k)=t.get (posOf k):=fun k hk=>h k (.inl (by rw[hZ b];exact hk))
 refine⟨o,ti,b,fun k hk j d hj=>(h1 k hk j d hj).trans (h k (.inr ⟨j,d,hj⟩)).symm,m,bw,u,fun hb k hk=>(hd k hk).trans (h4 hb k hk),fun hb=>?_⟩
 grind [lU]
theorem qq.grow (hp:qq P G ops A t₀ t V O lo i) (h:∀b o,V.m.get b=some o->V1.m.get b=some o) (hn:V.next.num<=V1.next.num):qq P G ops A t₀ t V1 O lo i:=by
 obtain⟨o,ti,d,h1,u,bw,C,h4,h5⟩:=hp;refine⟨o,ti,d,h1,u,bw,C,h4,fun hb=>?_⟩
 grind [lU,H3]
theorem qq.Ti (hp:qq P G ops A t₀ t V O lo i) (m:Shape P ops A) (h:∀b,(∃o k v,ops[i]? =some o/\kindOf P o.op= .alloc/\eO ops i=some k/\t.get (posOf k)=some v/\da v=some b)->O b=none->ρ₁ b=none):qq P G ops A t₀ t V ρ₁ lo i:=by
 obtain⟨o,ti,d,h1,u,bw,C,h4,h5⟩:=hp;refine⟨o,ti,d,h1,u,bw,C,h4,fun hb=>?_⟩;have:=h5 hb;unfold lU at this⊢;split at this
 ·exact this
 ·exact this
 ·rename_i hk;obtain⟨ob,mk,b,g1,g2,g3,g4,g5,g6⟩:=this;obtain⟨k,aa⟩:=m.dst i o d (by simp[fK,tx,d,hk])
  grind [hZ,zQ]
 exact this
theorem qq.again (hp:qq P G ops A t₀ t V O lo i) (T:Shape P ops A) (h:∀k,(eO ops i=some k∨∃j,qZ A i j=true/\eO ops j=some k)->t₁.get (posOf k)=t.get (posOf k))
  (h0:∀k,(∀j,eO ops j≠some k)->t₁.get (posOf k)=t₀.get (posOf k)) (u:fK P ops i=true->jQ P G ops t₁ V1 i=true)
  (hr:∀b:Pos,b.num<V.next.num->ρ₁ b=O b) (hn:V.next.num<=V1.next.num):qq P G ops A t₀ t₁ V1 ρ₁ lo i:=by
 have hp₁:=hp.agree h;obtain⟨o,ti,C,h1,I,bw,F,h4,h5⟩:=hp₁;cases hb:bw with
 | false=>exact⟨o,ti,C,h1,I,bw,F,h4,fun K=>absurd K (by rw[hb];simp)⟩
 | true=>
  have hv:=h5 hb;subst hb;cases hk:kindOf P o.op with
  | pure=>
   refine⟨o,ti,C,h1,I,true,F,h4,fun _=>?_⟩
   grind [lU]
  | kh=>unfold lU at hv;simp_all
  | read=>
   have hl:fK P ops i=true:=by simp[fK,tx,C,hk]
   have m:∀k∈slotsOf ops o,t₁.get (posOf k)=ti.get (posOf k):=fun k d=>by
    by_cases hw:∃j,eO ops j=some k
    ·obtain⟨j,hj⟩:=hw;rcases T.look i o j k C hj d with L | ⟨M,_⟩
     ·grind
     simp_all
    simp_all
   have aq:=u hl;unfold jQ at aq;rw[C] at aq;dsimp only at aq;rw[jZ m,F] at aq;dsimp only at aq;refine⟨o,t₁,C,fun _ _ _ _ _=>Z,fun k d hj=>(m k d).trans (I k d hj),true,by rw[jZ m];exact F,fun h'=>(by cases h'),fun _=>?_⟩
   grind [lU,LX]
  | alloc=>
   have hl:fK P ops i=true:=by simp[fK,tx,C,hk]
   have m:∀k∈slotsOf ops o,t₁.get (posOf k)=ti.get (posOf k):=fun k d=>by
    by_cases hw:∃j,eO ops j=some k
    ·obtain⟨j,hj⟩:=hw;rcases T.look i o j k C hj d with L | ⟨M,_⟩
     ·grind
     simp_all
    simp_all
   have aq:=u hl;unfold jQ at aq;rw[C] at aq;dsimp only at aq;rw[jZ m,F] at aq;dsimp only at aq;refine⟨o,t₁,C,fun _ _ _ _ _=>Z,fun k d hj=>(m k d).trans (I k d hj),true,by rw[jZ m];exact F,fun h'=>(by cases h'),fun _=>?_⟩;unfold lU at hv⊢;rw[hk] at hv⊢;dsimp only at hv⊢;obtain⟨ob,mk,b,g1,g2,g3,g4,g5,U⟩:=hv;split at aq
   ·rename_i k Q;have g6':=U k Q;rw[g6'] at aq;dsimp only at aq;rw[hk] at aq;dsimp only at aq;have ab:ρ₁ b=none:=by simp_all
    split at aq
    ·rename_i cs e b' L E;split at aq
     ·rename_i cs' e' R;rw[bA_] at aq;have e1:=nB aq.1;have e2:=uX aq.2;subst e1;subst e2;have aa:b'=b:=by cases mk<;>simp[Mk.of] at E<;>exact E.symm
      grind [Mk.of]
     cases aq
    ·rename_i cs e n c b' n' c' L E;split at aq
     ·rename_i cs' e' R;simp only[bA_] at aq;have e1:=nB aq.1.1.1;have e2:=uX aq.1.1.2;have e3:=nB aq.1.2;have e4:=nB aq.2;subst e1;subst e2;subst e3;subst e4;have ac:b'=b/\mk= .slice n c:=by cases mk<;>simp[Mk.of] at E<;>(simp_all)
      grind
     cases aq
    cases aq
   cases aq
end
theorem lM {t t₁:PT J} {n:Nat} {dst:Option Nat} {v:J} (h:dA t n dst v=some t₁):
  (∀k,dst≠some k->t₁.get (posOf k)=t.get (posOf k))/\(∀k,dst=some k->k<n/\t₁.get (posOf k)=some v):=by
 cases dst with
 | none=>cases h;simp_all
 | some j=>
  obtain⟨hj,rfl⟩:=qc h;refine⟨fun k hk=>PT.db _ _ _ _ (fun e=>hk (by rw[p8 e])),fun k hk=>?_⟩;cases hk;exact⟨hj,PT.de _ _ _⟩
theorem Kt {a:Act} {dst:Option Tmp} {x:Value}:(∀k,dst≠some k->(a.put dst x).tmps.getD k undef=a.tmps.getD k undef)/\(∀k,dst=some k->k<a.tmps.size->(a.put dst x).tmps.getD k undef=x)/\(a.put dst x).tmps.size=a.tmps.size:=by
 cases dst with
 | none=>exact⟨fun _ _=>Z,(fun k hk=>by cases hk),Z⟩
 | some j=>
  refine⟨fun k hk=>?_,fun k hk b=>?_,by simp[Act.put]⟩
  ·have:j≠k:=fun e=>hk (by rw[e])
   simp[Act.put,Array.getD_eq_getD_getElem?,Array.getElem?_setIfInBounds,this]
  cases hk;simp[Act.put,Array.getD_eq_getD_getElem?,Array.getElem?_setIfInBounds,b]
theorem cY {α:Type} {x y:α} {l:List α} (h:x∈y::l):x=y∨x∈l:=mQ_.1 h
structure J_ (P:Program) (G:Cx) (ih:jx) (ops:Array Oper) (A:Array Nat) (n:Nat) (d:List DE) (fin:CR) (ρ₀:Ren) (σ₀:N) (w₀:World) (t₀:PT J)
  (l:List (Nat×List Nat)) (done:List Nat) (t:PT J) (V:N) (listed:Array Bool) (O:Ren) (w:World) (a:Act):Prop where
 run:jF P G ih ops n d l t V=fin
 ok:FC P ops A l done
 inv:Inv O V w
 N7:eF ρ₀ σ₀ w₀ O V w
 dr:DR O d a.defers
 gr:GR O G
 Oa:a.tmps.size=n
 LK:listed.size=ops.size
 Ou:∀i∈done,i<ops.size
 ord:Ord ops done
 sub:∀i,Li listed i->i∈done
 kh:∀i∈done,jk P ops i=true->Li listed i
 closed:∀i j,j<ops.size->Li listed i->qZ A i j=true->Li listed j
 kM:∀i j,j<ops.size->i∈done->qZ A i j=true->j∈done
 PG:∀i∈done,∀k,eO ops i=some k->k<n
 C5:∀i k v,Li listed i->eO ops i=some k->t.get (posOf k)=some v->VR O v (a.tmps.getD k undef)
 C4:∀k v,(∀i,Li listed i->eO ops i≠some k)->t₀.get (posOf k)=some v->k<n/\VR O v (a.tmps.getD k undef)
 same:∀k,(∀i∈done,eO ops i≠some k)->t.get (posOf k)=t₀.get (posOf k)
 CH:∀i∈done,¬Li listed i->qq P G ops A t₀ t V O σ₀.next.num i
 apart:∀i j o o' k k' v v' b,i∈done->j∈done->¬Li listed i->¬Li listed j->ops[i]? =some o->ops[j]? =some o'->kindOf P o.op= .alloc->kindOf P o'.op= .alloc->
  eO ops i=some k->eO ops j=some k'->t.get (posOf k)=some v->t.get (posOf k')=some v'->da v=some b->da v'=some b->i=j
section
variable {P:Program} {G:Cx} {ih:jx} {ops:Array Oper} {A:Array Nat} {n:Nat} {d:List DE} {fin:CR} {ρ₀:Ren} {σ₀:N} {w₀:World} {t₀:PT J}
variable {l:List (Nat×List Nat)} {done:List Nat} {t:PT J} {V:N} {listed:Array Bool} {O:Ren} {w:World} {a:Act}
theorem vF (b:Shape P ops A) {i:Nat} (hi:i<ops.size) (hw:∀j,waits ops i j=true->j∈done) (hd:∀i j,j<ops.size->i∈done->qZ A i j=true->j∈done):∀j,j<ops.size->qZ A i j=true->j∈done:=fun j hj m=>by
 rcases b.qZ i j hi hj m with h | ⟨q,h1,h2⟩
 ·exact hw j h
 grind
theorem vG (b:Shape P ops A) {i:Nat} (hi:i<ops.size) (hw:∀j,waits ops i j=true->Li listed j) (hd:∀i j,j<ops.size->Li listed i->qZ A i j=true->Li listed j):∀j,j<ops.size->qZ A i j=true->Li listed j:=fun j hj m=>by
 rcases b.qZ i j hi hj m with h | ⟨q,h1,h2⟩
 ·exact hw j h
 grind
theorem J_.wu (E:Shape P ops A) (hj:J_ P G ih ops A n d fin ρ₀ σ₀ w₀ t₀ l done t V listed O w a) {i:Nat} {o:Oper} (u:ops[i]? =some o) (C:i∉done):
  ∀k∈slotsOf ops o,(∀j,eO ops j=some k->qZ A i j=false)->t.get (posOf k)=t₀.get (posOf k):=fun k hk aa=>by
 refine hj.same k fun j b m=>?_
 rcases E.look i o j k u m hk with h | ⟨_,h | h⟩
 ·simp_all
 ·subst h;exact C b
 exact C<|hj.kM j i (aS_.1 u).1 b h
theorem J_.look (F:Shape P ops A) (hj:J_ P G ih ops A n d fin ρ₀ σ₀ w₀ t₀ l done t V listed O w a) {i:Nat} {o:Oper} {ti:PT J} (u:ops[i]? =some o) (C:¬Li listed i) (I:∀j,j<ops.size->qZ A i j=true->Li listed j)
  (h1:∀k∈slotsOf ops o,∀j,qZ A i j=true->eO ops j=some k->ti.get (posOf k)=t.get (posOf k)) (K:∀k∈slotsOf ops o,(∀j,eO ops j=some k->qZ A i j=false)->ti.get (posOf k)=t₀.get (posOf k)):
  ∀k∈slotsOf ops o,∀v,ti.get (posOf k)=some v->k<n/\VR O v (a.tmps.getD k undef):=fun k hk v hv=>by
 by_cases hw:∃j,eO ops j=some k/\qZ A i j=true
 ·obtain⟨j,b,E⟩:=hw;have hL:=I j (lq b) E;rw[h1 k hk j E b] at hv;exact⟨hj.PG j (hj.sub j hL) k b,hj.C5 j k v hL b hv⟩
 have m:∀j,eO ops j=some k->qZ A i j=false:=fun j b=>by
  simp_all
 rw[K k hk m] at hv;refine hj.C4 k v (fun j hL b=>?_) hv;rcases F.look i o j k u b hk with h | ⟨_,h | h⟩
 ·simp_all
 ·subst h;exact C hL
 exact C<|hj.closed j i (aS_.1 u).1 hL h
theorem Ga {ti:PT J} {o:Oper} (b:GR O G) (h:∀k∈slotsOf ops o,∀v,ti.get (posOf k)=some v->k<n/\VR O v (a.tmps.getD k undef)):ER O (bn G ti) a.eval o.op:=fun x hx v hv=>by
 cases x with
 | tmp k=>exact(h k (Av hx) v hv).2
 | const c=>exact iE (t:=.leaf) (n:=a.tmps.size) b ⟨Z,fun k v hk=>by rw[PT.jh] at hk;cases hk⟩ hv
 | global g=>exact iE (t:=.leaf) (n:=a.tmps.size) b ⟨Z,fun k v hk=>by rw[PT.jh] at hk;cases hk⟩ hv
 | func f=>exact iE (t:=.leaf) (n:=a.tmps.size) b ⟨Z,fun k v hk=>by rw[PT.jh] at hk;cases hk⟩ hv
theorem uy {ti:PT J} {o:Oper} {b:Bool} (m:a.tmps.size=n) (h:∀k∈slotsOf ops o,∀v,ti.get (posOf k)=some v->k<n/\VR O v (a.tmps.getD k undef)) (hw:bF ops ti o=some b):Region.wanted o (yielded ops a.tmps)=b:=
 zw hw fun j want k u hk v hv=>by
  have:=h k (wo u hk) v hv;rw[m];exact this
theorem J_.ahead (hs:Shape P ops A) {i:Nat} {rc:List Nat} (hj:J_ P G ih ops A n d fin ρ₀ σ₀ w₀ t₀ ((i,rc)::l) done t V listed O w a) (hl:jk P ops i=false) {o:Oper} (ho:ops[i]? =some o) {v:J} {t₁:PT J} {I:N}
  (hp:dA t n o.dst v=some t₁) (K:jF P G ih ops n d l t₁ I=fin) (hinv:Inv O I w) (aq:eF O V w O I w) (L:∀b o,V.m.get b=some o->I.m.get b=some o)
  (hblk:∀b,da v=some b->kindOf P o.op= .alloc->V.next.num<=b.num) (ab:qq P G ops A t₀ t₁ I O σ₀.next.num i):J_ P G ih ops A n d fin ρ₀ σ₀ w₀ t₀ l (i::done) t₁ I listed O w a:=by
 obtain⟨hh,W⟩:=hj.ok;obtain⟨f1,f2⟩:=lM hp;have M:eO ops i=o.dst:=hZ ho;have ai:¬Li listed i:=fun h=>hh.new (hj.sub i h)
 have C:∀j∈done,∀k,eO ops j=some k->t₁.get (posOf k)=t.get (posOf k):=fun j E k hk=>f1 k fun e=>by
  have:=hs.uniq i j k (by rw[M];exact e) hk;subst this;exact hh.new E
 have aa:∀j∈done,¬Li listed j->qq P G ops A t₀ t₁ I O σ₀.next.num j:=fun j E F=>by
  refine((hj.CH j E F).agree fun k hk=>?_).grow L aq.next;rcases hk with hk | ⟨q,hq,hk⟩
  ·grind
  exact C q (hj.kM j q (lq hk) E hq) k hk
 have ad:∀j o' k' v' b,j∈done->¬Li listed j->ops[j]? =some o'->kindOf P o'.op= .alloc->eO ops j=some k'->t₁.get (posOf k')=some v'->da v'=some b->b.num<V.next.num:=fun j o' k' v' b E F Q hk hd hv hb=>by
  obtain⟨o'',ti,e,_,_,bw,_,h4,h5⟩:=hj.CH j E F;rw[Q] at e;cases e;rw[C j E k' hd] at hv;rw[hZ Q] at hd;cases bw with
  | false=>rw[h4 Z k' hd] at hv;cases hv;cases hb
  | true=>
   have:=h5 Z
   grind [lU,zQ]
 refine⟨K,W,hinv,hj.N7.trans aq,hj.dr,hj.gr,hj.Oa,hj.LK,fun j h=>?_,⟨hh.dep,hj.ord⟩,fun j h=>mC_ _ (hj.sub j h),fun j h hv=>?_,hj.closed,fun j q hq h ha=>?_,fun j h k hk=>?_,fun j k u hL hk hu=>?_,hj.C4,fun k hk=>?_,fun j h F=>?_,?_⟩
 ·rcases cY h with rfl | h
  ·exact hh.lt
  exact hj.Ou j h
 ·rcases cY h with rfl | h
  ·simp_all
  exact hj.kh j h hv
 ·rcases cY h with rfl | h
  ·exact mC_ _<|vF hs hh.lt hh.dep hj.kM q hq ha
  exact mC_ _<|hj.kM j q hq h ha
 ·rcases cY h with rfl | h
  ·simp_all
  exact hj.PG j h k hk
 ·rw[C j (hj.sub j hL) k hk] at hu;exact hj.C5 j k u hL hk hu
 ·rw[f1 k (fun e=>hk i (mS_ ..) (by rw[M];exact e))];exact hj.same k fun j h=>hk j (mC_ _ h)
 ·grind
 intro j q o' o'' k k' u u' b h1 h2 h3 h4 h5 h6 h7 h8 h9 R T U X ac;rcases cY h1 with rfl | m1<;>rcases cY h2 with rfl | m2
 ·rfl
 ·grind
 ·grind
 rw[C j m1 k h9] at T;rw[C q m2 k' R] at U;exact hj.apart j q o' o'' k k' u u' b m1 m2 h3 h4 h5 h6 h7 h8 h9 R T U X ac
theorem Inv.DP (hi:Inv O V w) (ob:cu):zH O (V.alloc ob) w/\eF O V w O (V.alloc ob) w/\∀b o,V.m.get b=some o->(V.alloc ob).m.get b=some o:=by
 have aa:O V.next=none:=(hi.fresh _<|nR_ _).1;have u:∀b,b≠V.next->(V.alloc ob).m.get b=V.m.get b:=fun b hb=>PT.db _ _ _ _ hb
 have back:∀b o l,(V.alloc ob).m.get b=some o->O b=some l->V.m.get b=some o:=fun b o l h hl=>by
  grind
 refine⟨⟨fun b hb=>?_,hi.da,fun b o l h hl=>hi.obj b o l (back b o l h hl) hl,fun b b' o o' l l' h1 E C h4=>hi.inj b b' o o' l l' (back b o l h1 C) (back b' o' l' E h4) C h4⟩,⟨fun _ _=>Z,?_,nR_ _,fun _ _ _=>Z,?_,Z,Z,Z,nR_ _⟩,fun b o h=>?_⟩
 ·have ab:V.next.num+1<=b.num:=by simpa [N.alloc,Pos.ie] using hb
  have hne:b≠V.next:=fun e=>by subst e;omega
  rw[u b hne];exact hi.fresh b oM
 ·simp[N.alloc,Pos.ie]
 ·rintro r ⟨b,o,l,h1,E,C,rfl⟩ _;exact⟨b,o,l,back b o l h1 C,E,C,Z⟩
 by_cases e:b=V.next
 ·subst e;rw[(hi.fresh _<|nR_ _).2] at h;cases h
 simp_all
theorem Inv.ahead (hi:Inv O V w) (ob:cu):Inv O (V.alloc ob) w/\eF O V w O (V.alloc ob) w/\∀b o,V.m.get b=some o->(V.alloc ob).m.get b=some o:=
 let ⟨h1,u,C⟩:=hi.DP ob;⟨⟨h1,hi.nz.of u⟩,u,C⟩
theorem N.Hv (V:N) (ob:cu):(V.alloc ob).m.get V.next=some ob:=PT.de _ _ _
theorem J_.Qm (K:Shape P ops A) {i:Nat} {rc:List Nat} (hj:J_ P G ih ops A n d fin ρ₀ σ₀ w₀ t₀ ((i,rc)::l) done t V listed O w a) (hl:jk P ops i=false) (aa:∀k,fin≠ .err k):
  ∃t₁ C,J_ P G ih ops A n d fin ρ₀ σ₀ w₀ t₀ l (i::done) t₁ C listed O w a:=by
 obtain⟨hh,ab⟩:=hj.ok;obtain⟨o,F⟩:∃o,ops[i]? =some o:=⟨ops[i]' hh.lt,aG_ hh.lt⟩
 have u:(match ops[i]? with
   | some o=>ig P G ih false ops n o t V (fun t' V'=>bif dc P G ops t' V' rc then jF P G ih ops n d l t' V' else .err 86)
   | none=>.err 87)=fin:=hj.run
 rw[F] at u;dsimp only at u;have hhead:=hj.wu K F hh.new
 have E:∀t₁ C,(bif dc P G ops t₁ C rc then jF P G ih ops n d l t₁ C else .err 86)=fin->jF P G ih ops n d l t₁ C=fin:=fun t₁ C h=>by
  grind
 have I:∀{v:J} {t₁:PT J},dA t n o.dst v=some t₁->∀k∈slotsOf ops o,∀j,qZ A i j=true->eO ops j=some k->t.get (posOf k)=t₁.get (posOf k):=fun hp k hk j R M=>by
  refine((lM hp).1 k fun e=>?_).symm;have:=K.uniq i j k (by rw[hZ F];exact e) M;subst this;exact hh.new<|vF K hh.lt hh.dep hj.kM i hh.lt R
 unfold ig at u;cases hw:bF ops t o with
 | none=>grind
 | some bw=>
  rw[hw] at u;cases bw with
  | false=>
   dsimp only at u;cases hp:dA t n o.dst unit with
   | none=>grind
   | some t₁=>
    rw[hp] at u;refine⟨t₁,V,hj.ahead K hl F hp (E _ _ u) hj.inv (eF.refl _ _ _) (fun _ _ h=>h) (fun b hb=>by cases hb) ?_⟩;exact⟨o,t,F,I hp,hhead,false,hw,fun _ k hk=>((lM hp).2 k hk).2,fun h=>by cases h⟩
  | true=>
   dsimp only at u
   have main:∀(v:J) (C:N),kA P G ih (dM P G (bn G t) V o.op)= .ret v C->Inv O C w->eF O V w O C w->(∀b o,V.m.get b=some o->C.m.get b=some o)->
     (∀b,da v=some b->kindOf P o.op= .alloc->V.next.num<=b.num)->(∀t₁,(∀k,o.dst=some k->t₁.get (posOf k)=some v)->lU P G t₁ C O σ₀.next.num t o)->
     ∃t₁ C,J_ P G ih ops A n d fin ρ₀ σ₀ w₀ t₀ l (i::done) t₁ C listed O w a:=by
    intro v C he hinv aq L hblk Q;rw[he] at u;dsimp only at u;cases hp:dA t n o.dst v with
    | none=>grind
    | some t₁=>
     rw[hp] at u;refine⟨t₁,C,hj.ahead K hl F hp (E _ _ u) hinv aq L hblk ?_⟩;exact⟨o,t,F,I hp,hhead,true,hw,fun h=>(by cases h),fun _=>Q t₁ fun k hk=>((lM hp).2 k hk).2⟩
   cases hk:kindOf P o.op with
   | kh=>simp[jk,Ew,F,hk] at hl
   | pure=>
    cases hv:du P (bn G t) o.op with
    | none=>
     have:kA P G ih (dM P G (bn G t) V o.op)= .err (Nat.add 1000<|yY o.op):=by unfold dM;rw[hk];dsimp only;rw[hv];rfl
     grind
    | some v=>
     have:kA P G ih (dM P G (bn G t) V o.op)= .ret v V:=by unfold dM;rw[hk];dsimp only;rw[hv];rfl
     refine main v V this hj.inv (eF.refl _ _ _) (fun _ _ h=>h) (fun b _ h=>by rw[hk] at h;cases h) fun t₁ ht₁=>?_
     unfold lU;simp_all
   | read=>
    cases hv:eY P (bn G t) V o.op with
    | none=>
     have:kA P G ih (dM P G (bn G t) V o.op)= .err (Nat.add 2000<|yY o.op):=by unfold dM;rw[hk];dsimp only;rw[hv];rfl
     grind
    | some v=>
     have:kA P G ih (dM P G (bn G t) V o.op)= .ret v V:=by unfold dM;rw[hk];dsimp only;rw[hv];rfl
     refine main v V this hj.inv (eF.refl _ _ _) (fun _ _ h=>h) (fun b _ h=>by rw[hk] at h;cases h) fun t₁ ht₁=>?_
     unfold lU;simp_all
   | alloc=>
    cases hv:eZ P (bn G t) o.op with
    | none=>
     have:kA P G ih (dM P G (bn G t) V o.op)= .err (Nat.add 3000<|yY o.op):=by unfold dM;rw[hk];dsimp only;rw[hv];rfl
     grind
    | some p=>
     obtain⟨ob,mk⟩:=p;have:kA P G ih (dM P G (bn G t) V o.op)= .ret (mk.of V.next) (V.alloc ob):=by unfold dM;rw[hk];dsimp only;rw[hv];rfl
     obtain⟨g1,T,U⟩:=hj.inv.ahead ob;refine main _ _ this g1 T U (fun b hb _=>by rw[zQ] at hb;simp_all) fun t₁ ht₁=>?_
     unfold lU;rw[hk];exact⟨ob,mk,V.next,hv,N.Hv V ob,(hj.inv.fresh _<|nR_ _).1,hj.N7.next,by simp[N.alloc,Pos.ie],ht₁⟩
theorem J_.advance (m:Shape P ops A) (b:∀k,fin≠ .err k):∀(l:List (Nat×List Nat)) (done:List Nat) (t:PT J) (V:N),J_ P G ih ops A n d fin ρ₀ σ₀ w₀ t₀ l done t V listed O w a->
  ∃l' done' t' V',J_ P G ih ops A n d fin ρ₀ σ₀ w₀ t₀ l' done' t' V' listed O w a/\(l'= []∨∃i rc r,l'=(i,rc)::r/\jk P ops i=true)
 | [],done,t,V,hj=>⟨[],done,t,V,hj,.inl Z⟩
 | (i,rc)::l,done,t,V,hj=>by
  cases hl:jk P ops i with
  | true=>exact⟨_,done,t,V,hj,.inr ⟨i,rc,l,Z,hl⟩⟩
  | false=>
   obtain⟨t₁,u,hj₁⟩:=hj.Qm m hl b;exact J_.advance m b l _ t₁ u hj₁
end
section
variable {P:Program} {G:Cx} {ih:jx} {ops:Array Oper} {A:Array Nat} {n:Nat} {d:List DE} {fin:CR} {ρ₀:Ren} {σ₀:N} {w₀:World} {t₀:PT J}
variable {l:List (Nat×List Nat)} {done:List Nat} {t:PT J} {V:N} {listed:Array Bool} {O:Ren} {w:World} {a:Act}
theorem J_.behind (K:Shape P ops A) (hj:J_ P G ih ops A n d fin ρ₀ σ₀ w₀ t₀ l done t V listed O w a) {i:Nat} {o:Oper} {x:Value} {ρ₁:Ren} {w₁:World} (L:ops[i]? =some o) (E:i∈done) (hn:¬Li listed i)
  (hr:∀j,j<ops.size->qZ A i j=true->Li listed j) (hv:∀k v,o.dst=some k->t.get (posOf k)=some v->VR ρ₁ v x) (hinv:Inv ρ₁ V w₁) (aq:eF ρ₀ σ₀ w₀ ρ₁ V w₁) (hle:O.le ρ₁)
  (aa:∀j∈done,¬Li listed j->j≠i->qq P G ops A t₀ t V ρ₁ σ₀.next.num j):J_ P G ih ops A n d fin ρ₀ σ₀ w₀ t₀ l done t V (listed.setIfInBounds i true) ρ₁ w₁ (a.put o.dst x):=by
 have F:i<listed.size:=by rw[hj.LK];exact hj.Ou i E
 have C:eO ops i=o.dst:=hZ L;obtain⟨I,M,Q⟩:=Kt (a:=a) (dst:=o.dst) (x:=x);have m:∀{j},Li (listed.setIfInBounds i true) j↔j=i∨Li listed j:=DC F
 refine⟨hj.run,hj.ok,hinv,aq,by rw[put_defers];exact hj.dr.mono hle,hj.gr.mono hle,by rw[Q];exact hj.Oa,by simpa using hj.LK,hj.Ou,hj.ord,fun j h=>?_,fun j h hh=>m.2 (.inr<|hj.kh j h hh),fun j q hq h R=>?_,hj.kM,hj.PG,
  fun j k v h hk hu=>?_,fun k v h hu=>?_,hj.same,fun j h hl=>?_,?_⟩
 ·rcases m.1 h with rfl | h
  ·exact E
  exact hj.sub j h
 ·rcases m.1 h with rfl | h
  ·simp_all
  exact m.2 (.inr<|hj.closed j q hq h R)
 ·by_cases e:j=i
  ·subst e;rw[C] at hk;rw[M k hk (by rw[hj.Oa];exact hj.PG j E k (by rw[C];exact hk))];exact hv k v hk hu
  have hL:=(m.1 h).resolve_left e;rw[I k (fun e'=>e (K.uniq j i k hk (by rw[C];exact e')))];exact VR.mono hle _ _<|hj.C5 j k v hL hk hu
 ·rw[I k (fun e'=>h i (m.2 (.inl Z)) (by rw[C];exact e'))];obtain⟨q1,q2⟩:=hj.C4 k v (fun j hL=>h j (m.2 (.inr hL))) hu;exact⟨q1,VR.mono hle _ _ q2⟩
 ·simp_all
 intro j q o' o'' k k' u u' b h1 T U h4;exact hj.apart j q o' o'' k k' u u' b h1 T (fun hL=>U (m.2 (.inr hL))) (fun hL=>h4 (m.2 (.inr hL)))
theorem sF {t₁:PT J} {b:N}:∀{rc:List Nat} {j:Nat},dc P G ops t₁ b rc=true->j∈rc->jQ P G ops t₁ b j=true
 | [],j,_,hj=>by cases hj
 | i::rc,j,h,hj=>by
  have h':(bif jQ P G ops t₁ b i then dc P G ops t₁ b rc else false)=true:=h;rw[bu] at h';split at h'
  ·rename_i hi;rcases cY hj with rfl | hj
   ·exact hi
   exact sF h' hj
  cases h'
theorem J_.Ik (X:Shape P ops A) {i:Nat} {rc:List Nat} (hj:J_ P G ih ops A n d fin ρ₀ σ₀ w₀ t₀ ((i,rc)::l) done t V listed O w a) (hl:jk P ops i=true) {o:Oper} (ho:ops[i]? =some o)
  (hr:∀j,j<ops.size->qZ A i j=true->Li listed j) {v:J} {x:Value} {t₁:PT J} {L:N} {ρ₁:Ren} {w₁:World} (hp:dA t n o.dst v=some t₁) (I:dc P G ops t₁ L rc=true) (M:jF P G ih ops n d l t₁ L=fin)
  (hv:VR ρ₁ v x) (hinv:Inv ρ₁ L w₁) (aq:eF O V w ρ₁ L w₁):J_ P G ih ops A n d fin ρ₀ σ₀ w₀ t₀ l (i::done) t₁ L (listed.setIfInBounds i true) ρ₁ w₁ (a.put o.dst x):=by
 obtain⟨hh,aa⟩:=hj.ok;obtain⟨f1,f2⟩:=lM hp;have hle:=aq.le hj.inv;have ab:i<listed.size:=by rw[hj.LK];exact hh.lt
 have E:eO ops i=o.dst:=hZ ho;obtain⟨p1,p2,p3⟩:=Kt (a:=a) (dst:=o.dst) (x:=x);have m:∀{j},Li (listed.setIfInBounds i true) j↔j=i∨Li listed j:=DC ab;have am:¬Li listed i:=fun h=>hh.new (hj.sub i h)
 have C:∀j∈done,∀k,eO ops j=some k->t₁.get (posOf k)=t.get (posOf k):=fun j F k hk=>f1 k fun e=>by
  have:=X.uniq i j k (by rw[E];exact e) hk;subst this;exact hh.new F
 refine⟨M,aa,hinv,hj.N7.trans aq,by rw[put_defers];exact hj.dr.mono hle,hj.gr.mono hle,by rw[p3];exact hj.Oa,by simpa using hj.LK,fun j h=>?_,⟨hh.dep,hj.ord⟩,fun j h=>?_,fun j h hv=>?_,fun j q hq h K=>?_,fun j q hq h K=>?_,fun j h k hk=>?_,
  fun j k u h hk hu=>?_,fun k u h hu=>?_,fun k hk=>?_,fun j h Q=>?_,?_⟩
 ·rcases cY h with rfl | h
  ·exact hh.lt
  exact hj.Ou j h
 ·rcases m.1 h with rfl | h
  ·simp_all
  exact mC_ _<|hj.sub j h
 ·rcases cY h with rfl | h
  ·simp_all
  exact m.2 (.inr<|hj.kh j h hv)
 ·rcases m.1 h with rfl | h
  ·simp_all
  exact m.2 (.inr<|hj.closed j q hq h K)
 ·rcases cY h with rfl | h
  ·exact mC_ _<|vF X hh.lt hh.dep hj.kM q hq K
  exact mC_ _<|hj.kM j q hq h K
 ·rcases cY h with rfl | h
  ·simp_all
  exact hj.PG j h k hk
 ·by_cases e:j=i
  ·subst e;rw[E] at hk;obtain⟨q1,q2⟩:=f2 k hk;rw[p2 k hk (by rw[hj.Oa];exact q1)]
   simp_all
  have hL:=(m.1 h).resolve_left e;rw[p1 k (fun e'=>e (X.uniq j i k hk (by rw[E];exact e')))];rw[C j (hj.sub j hL) k hk] at hu;exact VR.mono hle _ _<|hj.C5 j k u hL hk hu
 ·rw[p1 k (fun e'=>h i (m.2 (.inl Z)) (by rw[E];exact e'))];obtain⟨q1,q2⟩:=hj.C4 k u (fun j hL=>h j (m.2 (.inr hL))) hu;exact⟨q1,VR.mono hle _ _ q2⟩
 ·rw[f1 k (fun e=>hk i (mS_ ..) (by rw[E];exact e))];exact hj.same k fun j h=>hk j (mC_ _ h)
 ·have ac:j≠i:=fun e=>Q (m.2 (.inl e))
  have R:¬Li listed j:=fun hL=>Q (m.2 (.inr hL))
  have F:j∈done:=(cY h).resolve_left ac;refine(hj.CH j F R).again X (fun k hk=>?_) (fun k hk=>?_) (fun ad=>?_) (fun b hb=>aq.ext b hb) aq.next
  ·rcases hk with hk | ⟨q,hq,hk⟩
   ·grind
   exact C q (hj.kM j q (lq hk) F hq) k hk
  ·rw[f1 k (fun e=>hk i (by rw[E];exact e))];exact hj.same k fun j _=>hk j
  rcases hh.again hl j F ad with K | hm
  ·exact absurd (hr j (hj.Ou j F) K) R
  exact sF I hm
 intro j q o' o'' k k' u u' b h1 h2 h3 h4 h5 h6 h7 h8 h9 T U W ai al;have m1:j∈done:=(cY h1).resolve_left fun e=>h3 (m.2 (.inl e))
 have m2:q∈done:=(cY h2).resolve_left fun e=>h4 (m.2 (.inl e))
 rw[C j m1 k h9] at U;rw[C q m2 k' T] at W;exact hj.apart j q o' o'' k k' u u' b m1 m2 (fun hL=>h3 (m.2 (.inr hL))) (fun hL=>h4 (m.2 (.inr hL))) h5 h6 h7 h8 h9 T U W ai al
theorem CS {i:Nat} (m:listed.size=ops.size) (h:i∈Region.ready .any ops listed):i<ops.size/\¬Li listed i/\∀j,waits ops i j=true->Li listed j:=by
 obtain⟨h1,o,u,C⟩:=mem_ready.1 h;have hlt:=(aS_.1 u).1;refine⟨hlt,(J5 (by rw[m];exact hlt)).1 h1,fun j hw=>?_⟩;obtain⟨o',b,e,he,hb,rfl⟩:=qn.1 hw;rw[u] at b;cases b;exact C e he hb
theorem CQ {i:Nat} (m:listed.size=ops.size) (b:i<ops.size) (u:¬Li listed i) (hw:∀j,waits ops i j=true->Li listed j):i∈Region.ready .any ops listed:=
 mem_ready.2 ⟨(J5 (by rw[m];exact b)).2 u,ops[i]' b,aG_ b,fun e he hb=>hw _ (qn.2 ⟨_,aG_ b,e,he,hb,Z⟩)⟩
theorem yZ:∀{done:List Nat},Ord ops done->(∃i∈done,¬Li listed i)->∃i∈done,¬Li listed i/\∀j,waits ops i j=true->Li listed j
 | [],_,⟨i,hi,_⟩=>by cases hi
 | i::r,m,⟨q,hq,C⟩=>by
  by_cases u:∃j∈r,¬Li listed j
  ·obtain⟨j,h1,h2,h3⟩:=yZ m.2 u
   grind
  have b:∀j∈r,Li listed j:=fun j hj=>Classical.byContradiction fun h=>u ⟨j,hj,h⟩
  rcases cY hq with rfl | hq
  ·exact⟨q,mS_ ..,C,fun j hw=>b j (m.1 j hw)⟩
  simp_all
theorem J_.all (hs:Shape P ops A) (hj:J_ P G ih ops A n d fin ρ₀ σ₀ w₀ t₀ l done t V listed O w a) (hr:Region.ready .any ops listed= []):∀i,i<ops.size->Li listed i:=by
 have b:∀i∈done,Li listed i:=fun i hi=>Classical.byContradiction fun h=>by
  obtain⟨q,h1,m,u⟩:=yZ hj.ord ⟨i,hi,h⟩;have:=CQ hj.LK (hj.Ou q h1) m u
  simp_all
 intro i hi;cases l with
 | nil=>
  have:=hj.ok;exact b i<|this i hi
 | cons p l=>
  obtain⟨q,rc⟩:=p;obtain⟨hh,_⟩:=hj.ok;have:=CQ (listed:=listed) hj.LK hh.lt (fun h=>hh.new (hj.sub q h)) (fun j hw=>b j (hh.dep j hw))
  simp_all
theorem J_.finish (hs:Shape P ops A) (hj:J_ P G ih ops A n d fin ρ₀ σ₀ w₀ t₀ l done t V listed O w a) (b:∀i,i<ops.size->Li listed i):fin= .ok .normal t d V/\TR O t n a.tmps:=by
 cases l with
 | nil=>
  refine⟨hj.run.symm,hj.Oa,fun k v hv=>?_⟩
  by_cases hw:∃i,eO ops i=some k
  ·obtain⟨i,hi⟩:=hw;have hL:=b i (lq hi);exact⟨hj.PG i (hj.sub i hL) k hi,hj.C5 i k v hL hi hv⟩
  rw[hj.same k fun i _ hi=>hw ⟨i,hi⟩] at hv;exact hj.C4 k v (fun i _ hi=>hw ⟨i,hi⟩) hv
 | cons p l=>
  obtain⟨q,rc⟩:=p;obtain⟨hh,_⟩:=hj.ok;exact absurd (hj.sub q<|b q hh.lt) hh.new
def left (N_:Nat) (listed:Array Bool):Nat:=(List.range N_).countP fun i=> !listed.getD i false
theorem yz {α:Type} {p q:α->Bool}:∀{l:List α} {x:α},(∀y∈l,q y=true->p y=true)->x∈l->p x=true->q x=false->l.countP q<l.countP p
 | [],x,_,hx,_,_=>by cases hx
 | y::l,x,h,hx,hp,hq=>by
  have hle:l.countP q<=l.countP p:=List.countP_mono_left fun z hz=>h z (mC_ _ hz)
  rcases cY hx with rfl | hx
  ·grind
  have:=yz (fun z hz=>h z (mC_ _ hz)) hx hp hq
  grind
theorem JN {N_ i:Nat} (hi:i<N_) (b:listed.size=N_) (m:¬Li listed i):left N_ (listed.setIfInBounds i true)<left N_ listed:=by
 refine yz (x:=i) (fun y _ hy=>?_) (List.mem_range.2 hi) ?_ ?_
 ·by_cases h:Li listed y
  ·have:Li (listed.setIfInBounds i true) y:=(DC (by rw[b];exact hi)).2 (.inr h);unfold Li at this
   simp_all
  unfold Li at h;simpa using h
 ·unfold Li at m;simpa using m
 simp_all
theorem HE {N_:Nat} (h:left N_ listed=0):∀i,i<N_->Li listed i:=fun i hi=>by
 have:=List.countP_eq_zero.1 h i (List.mem_range.2 hi);unfold Li;simpa using this
theorem Inv.lay (hi:Inv O V w) {b:Pos} {l:Loc} {ob:cu} {x:Obj} (hb:V.m.get b=some ob) (hn:O b=none) (aa:b.num<V.next.num) (hl:l.da=w.heap.size) (L:fR O l ob x):Inv (O.with b l) V (w.alloc x)/\O.le (O.with b l):=by
 have hle:O.le (O.with b l):=fun b' l' u=>by
  grind [Ren.dO]
 have hold:∀b' l',b'≠b->(O.with b l) b'=some l'->O b'=some l':=fun b' l' hne h=>by rwa[Ren.dO O l hne] at h
 have E:Old (O.with b l) V (w.alloc x):=by
  refine⟨by have:=hi.nz.size;simp;omega,fun r I=>by rw[heap_alloc_old w x<|Nat.lt_of_lt_of_le I hi.nz.size];exact hi.nz.same r I,fun r I ⟨b',o',l',h1,K,C,h4⟩=>?_⟩
  by_cases e:b'=b
  ·subst e;rw[Ren.cy] at C;cases C;have:=hi.nz.size;omega
  exact hi.nz.no r I ⟨b',o',l',h1,K,hold b' l' e C,h4⟩
 refine⟨⟨⟨fun b' u=>?_,fun b' l' u=>?_,fun b' o' l' u F=>?_,fun b₁ b₂ o₁ o₂ l₁ l₂ h1 K C h4 h5 M=>?_⟩,E⟩,hle⟩
 ·have hne:b'≠b:=fun e=>by subst e;omega
  rw[Ren.dO O l hne];exact hi.fresh b' u
 ·simp only[World.size_alloc]
  by_cases e:b'=b
  ·subst e;rw[Ren.cy] at u;cases u;omega
  have:=hi.da b' l' (hold b' l' e u);omega
 ·by_cases e:b'=b
  ·subst e;rw[Ren.cy] at F;cases F;rw[hb] at u;cases u;exact⟨x,by rw[hl];exact heap_alloc_new w x,L.mono hle⟩
  have h':=hold b' l' e F;obtain⟨y,hy,I⟩:=hi.obj b' o' l' u h';exact⟨y,by rw[heap_alloc_old w x<|hi.da b' l' h'];exact hy,I.mono hle⟩
 by_cases e1:b₁=b<;>by_cases e2:b₂=b
 ·simp_all
 ·subst e1;rw[Ren.cy] at C;cases C;have:=hi.da b₂ l₂ (hold b₂ l₂ e2 h4);omega
 ·subst e2;rw[Ren.cy] at h4;cases h4;have:=hi.da b₁ l₁ (hold b₁ l₁ e1 C);omega
 exact hi.inj b₁ b₂ o₁ o₂ l₁ l₂ h1 K (hold b₁ l₁ e1 C) (hold b₂ l₂ e2 h4) h5 M
theorem eF.lay (aq:eF ρ₀ σ₀ w₀ O V w) {b:Pos} {l:Loc} {x:Obj} (aa:σ₀.next.num<=b.num) (hl:l.da=w.heap.size):eF ρ₀ σ₀ w₀ (O.with b l) V (w.alloc x):=by
 refine⟨fun b' u=>?_,aq.next,by have:=aq.size;simp;omega,fun r C E=>?_,?_,aq.tape,aq.os,aq.out⟩
 ·rw[Ren.dO O l (fun e=>by subst e;omega)];exact aq.ext b' u
 ·rw[heap_alloc_old w x (by have:=aq.size;omega)];exact aq.frame r C E
 rintro r ⟨b',o',l',h1,F,m,rfl⟩ C
 by_cases e:b'=b
 ·subst e;rw[Ren.cy] at m;cases m;have:=aq.size;omega
 rw[Ren.dO O l e] at m;exact aq.wr _ ⟨b',o',l',h1,F,m,Z⟩ C
theorem J_.take (L:Shape P ops A) (hj:J_ P G ih ops A n d fin ρ₀ σ₀ w₀ t₀ l done t V listed O w a) {i:Nat} (F:i∈done) (M:¬Li listed i) (hw:∀j,waits ops i j=true->Li listed j) (rl:Option Nat) (m:Nat) {Q:Exit->Act->World->Prop} {K:Act->World->Prop}
  (W:∀ρ₁ w₁ a₁,J_ P G ih ops A n d fin ρ₀ σ₀ w₀ t₀ l done t V (listed.setIfInBounds i true) ρ₁ w₁ a₁->K a₁ w₁):wpOpIn (kN rl) m P ops Q i K a w:=by
 have hr:=vG L (hj.Ou i F) hw hj.closed;obtain⟨o,ti,I,h1,h2,bw,h3,h4,h5⟩:=hj.CH i F M;have hlook:=hj.look L I M hr h1 h2;unfold wpOpIn;rw[I];dsimp only;rw[uy hj.Oa hlook h3];cases bw with
 | false=>
  simp only[Bool.false_eq_true,if_false];exact⟨fun f _=>l5 rl f,W O w _<|hj.behind L I F M hr (fun k v hk hv=>by rw[h4 Z k hk] at hv;cases hv;exact uW) hj.inv hj.N7 (fun _ _ h=>h) fun j C E _=>hj.CH j C E⟩
 | true=>
  simp only[if_true];have X:ER O (bn G ti) a.eval o.op:=Ga hj.gr hlook;have hv:=h5 Z;unfold lU at hv;have R:kindOf P o.op≠ .kh->∀c,o.op≠ .defer c:=fun hk c e=>hk (by rw[e];rfl)
  unfold Oper.wpIn;refine⟨fun f _=>l5 rl f,?_⟩;cases hk:kindOf P o.op with
  | kh=>simp_all
  | pure=>
   rw[hk] at hv;obtain⟨v,g1,g2⟩:=hv;obtain⟨x,hx,T⟩:=w9 (P:=P) (w:=w) X g1;rw[Oper.semAt_eq _ _ _<|R (by rw[hk];simp),hx,Oper.uponIn_value];exact W O w _<|hj.behind L I F M hr (fun k u hk hu=>by simp_all) hj.inv hj.N7 (fun _ _ h=>h) fun j C E _=>hj.CH j C E
  | read=>
   rw[hk] at hv;obtain⟨v,g1,g2⟩:=hv;obtain⟨x,hx,T⟩:=xh (P:=P) hj.inv X g1;rw[Oper.semAt_eq _ _ _<|R (by rw[hk];simp),hx,Oper.uponIn_value];exact W O w _<|hj.behind L I F M hr (fun k u hk hu=>by simp_all) hj.inv hj.N7 (fun _ _ h=>h) fun j C E _=>hj.CH j C E
  | alloc=>
   rw[hk] at hv;obtain⟨ob,mk,b,g1,g2,g3,g4,g5,g6⟩:=hv;obtain⟨x,ob',c,hx,ad,aa,T⟩:=ua (P:=P) (w:=w) X g1;rw[Oper.semAt_eq _ _ _<|R (by rw[hk];simp),hx,Oper.uponIn_value];obtain⟨inv,hle⟩:=hj.inv.lay (l:=⟨w.heap.size,0,c⟩) g2 g3 g5 Z aa;obtain⟨kd,U⟩:=L.dst i o I (by simp[fK,tx,I,hk]);refine W _ _ _<|hj.behind L I F M hr (fun k u hk hu=>by grind [Ren.cy]) inv (hj.N7.lay g4 Z) hle fun j C E ab=>?_;refine(hj.CH j C E).Ti L fun b' ac hb'n=>?_
   obtain⟨o',k',v',q1,q2,q3,q4,q5⟩:=ac;rw[Ren.dO]
   ·exact hb'n
   intro e;subst e;exact ab<|hj.apart j i o' o k' kd v' (mk.of b') b' C F E M q1 I q2 hk q3 (by rw[hZ I];exact U) q4 (g6 kd U) q5<|zQ mk b'
theorem Jc (F:Shape P ops A) (hS:Sound P G ih) (rl:Option Nat) (m:Nat) {Q:Exit->Act->World->Prop} {e:Ex} {t':PT J} {d':List DE} {V':N} (C:fin= .ok e t' d' V')
  (hQ:∀(ρ':Ren) (w':World) (a':Act),Inv ρ' V' w'->eF ρ₀ σ₀ w₀ ρ' V' w'->TR ρ' t' n a'.tmps->DR ρ' d' a'.defers->Qx Q ρ' e a' w'):
  ∀(fuel:Nat) (l:List (Nat×List Nat)) (done:List Nat) (t:PT J) (V:N) (listed:Array Bool) (O:Ren) (w:World) (a:Act),J_ P G ih ops A n d fin ρ₀ σ₀ w₀ t₀ l done t V listed O w a->left ops.size listed<=fuel->
   wpAnyIn (kN rl) m P .any ops Q fuel listed a w:=by
 have I:∀{l done t V listed O w a},J_ P G ih ops A n d fin ρ₀ σ₀ w₀ t₀ l done t V listed O w a->Region.ready .any ops listed= []->Q .normal a w:=fun {l done t V listed O w a} hj hr=>by
  obtain⟨h1,U⟩:=hj.finish F (hj.all F hr);rw[C] at h1;cases h1;exact hQ O w a hj.inv hj.N7 U hj.dr _ Z
 intro fuel;induction fuel with
 | zero=>
  intro l done t V listed O w a hj hf;have hall:=HE (Nat.le_zero.1 hf)
  have hr:Region.ready .any ops listed= []:=by
   apply List.eq_nil_iff_forall_not_mem.2;intro i hi;obtain⟨h1,U,_⟩:=CS hj.LK hi;exact U<|hall i h1
  exact⟨hr,I hj hr⟩
 | succ fuel ihf=>
  intro l done t V listed O w a hj hf;refine⟨fun hr=>I hj hr,fun i hi=>?_⟩;obtain⟨l,done,t,V,hj,K⟩:=J_.advance F (fun k=>by rw[C];simp) l done t V hj;obtain⟨u,X,hw⟩:=CS hj.LK hi;have L:left ops.size (listed.setIfInBounds i true)<=fuel:=by have:=JN u hj.LK X;omega
  by_cases M:i∈done
  ·exact hj.take F M X hw rl m fun ρ₁ w₁ a₁ hj₁=>ihf _ _ _ _ _ _ _ _ hj₁ L
  
  rcases K with rfl | ⟨q,rc,r,rfl,hl⟩
  ·have:=hj.ok;exact absurd (this i u) M
  obtain⟨hh,_⟩:=hj.ok
  have aa:i=q:=Classical.byContradiction fun hne=>by
   obtain⟨x,h1,U⟩:=hh.alone hl i u M hne;exact U<|hj.sub x<|hw x h1
  subst aa;have hr:=vG F u hw hj.closed;obtain⟨o,T⟩:∃o,ops[i]? =some o:=⟨ops[i]' u,aG_ u⟩;have hlook:=hj.look F T X hr (ti:=t) (fun _ _ _ _ _=>Z) (hj.wu F T hh.new)
  have b:(match ops[i]? with
   | some o=>ig P G ih false ops n o t V (fun t' V'=>bif dc P G ops t' V' rc then jF P G ih ops n d r t' V' else .err 86)
   | none=>.err 87)=fin:=hj.run
  rw[T,C] at b;dsimp only at b
  have E:∀t₁ R,(bif dc P G ops t₁ R rc then jF P G ih ops n d r t₁ R else .err 86)= .ok e t' d' V'->dc P G ops t₁ R rc=true/\jF P G ih ops n d r t₁ R=fin:=fun t₁ R h=>by
   grind
  unfold ig at b;unfold wpOpIn;rw[T];dsimp only;cases W:bF ops t o with
  | none=>simp_all
  | some bw=>
   rw[W] at b;rw[uy hj.Oa hlook W];cases bw with
   | false=>
    dsimp only at b;simp only[Bool.false_eq_true,if_false];cases hp:dA t n o.dst unit with
    | none=>simp_all
    | some t₁=>
     rw[hp] at b;obtain⟨c1,c2⟩:=E _ _ b;exact⟨fun f _=>l5 rl f,ihf _ _ _ _ _ _ _ _ (hj.Ik F hl T hr hp c1 c2 uW hj.inv<|eF.refl _ _ _) L⟩
   | true=>
    dsimp only at b;simp only[if_true];cases he:kA P G ih (dM P G (bn G t) V o.op) with
    | err k=>simp_all
    | jE v R=>rw[he] at b;cases b
    | ret v R=>
     rw[he] at b;dsimp only at b;cases hp:dA t n o.dst v with
     | none=>simp_all
     | some t₁=>
      rw[hp] at b;obtain⟨c1,c2⟩:=E _ _ b;exact CD hS hj.inv hj.gr (Ga hj.gr hlook) he rl m fun ρ₁ w₁ x inv st hv=>ihf _ _ _ _ _ _ _ _ (hj.Ik F hl T hr hp c1 c2 hv inv st) L
end
section
variable {P:Program} {G:Cx}
theorem iU {b:Frame} {a:Act} {k:List Item} {cs:List Frame} {w:World} {c:Code}:step P (lone (b.atR a (.code (.scope c)::k)) cs w)= .next (lone (b.atR a (.code c:: .inScope c::k)) cs w):=
 step_lone_go (by simp[stepG,stepG.exec,Frame.atR])
theorem yc {b:Frame} {a:Act} {k:List Item} {cs:List Frame} {w:World} {c:Code}:step P (lone (b.atR a (.inScope c::k)) cs w)= .next (lone (b.atR a k) cs w):=
 step_lone_go (by simp[stepG,stepG.exec,Frame.atR])
theorem Fw {F:Fence} {n:Nat} {c:Code} {Q:Exit->Act->World->Prop} {a:Act} {w:World} (h:c.wpIn F n P (Exit.noGoto Q) a w):(Code.scope c).wpIn F n P Q a w:=by
 intro b k cs m hb u;have h0:(lone (b.atR a (.code (.scope c)::k)) cs w).fenced P F:=fenced_calm hb u Z;obtain⟨e,a₁,w₁,hq,d⟩:=h b (.inScope c::k) cs m hb u;cases e with
 | normal=>exact⟨.normal,a₁,w₁,hq,.head h0 iU<|StepsIn.trans d (.one (fenced_calm hb u Z) yc)⟩
 | exit id'=>
  have hx:exitTo id' (.inScope c::k)=exitTo id' k:=by simp[exitTo]
  exact⟨.exit id',a₁,w₁,hq,fun k' hk=>.head h0 iU (d.1 k' (by rw[hx];exact hk)),
   fun A hk=>let ⟨k₁,h1,C⟩:=d.2 A (by rw[hx];exact hk);⟨k₁,h1,.head h0 iU C⟩⟩
 | goto l=>exact hq.elim
 | ret=>exact⟨_,a₁,w₁,hq,.of_steps (.one h0 iU) d⟩
 | panic ch=>exact⟨_,a₁,w₁,hq,.of_steps (.one h0 iU) d⟩
 | outgrown=>exact⟨_,a₁,w₁,hq,.of_steps (.one h0 iU) d⟩
theorem jO {N_ i:Nat}:¬Li (Array.replicate N_ false) i:=by
 unfold Li;rw[Array.getD_eq_getD_getElem?,Array.getElem?_replicate];split<;>simp
theorem Ej {ih:jx} (E:Sound P G ih) {ops:Array Oper} {n:Nat} {d:List DE} {t:PT J} {V:N} {e:Ex} {t':PT J} {d':List DE} {V':N} (h:uh P G ih ops n d t V= .ok e t' d' V')
  {O:Ren} {w:World} {a:Act} (hi:Inv O V w) (F:GR O G) (C:TR O t n a.tmps) (hd:DR O d a.defers) (rl:Option Nat) (m:Nat) {Q:Exit->Act->World->Prop}
  (I:∀(ρ':Ren) (w':World) (a':Act),Inv ρ' V' w'->eF O V w ρ' V' w'->TR ρ' t' n a'.tmps->DR ρ' d' a'.defers->Qx Q ρ' e a' w'):
  wpAnyIn (kN rl) m P .any ops Q ops.size (Array.replicate ops.size false) a {w with drawn:=w.drawn+1}:=by
 unfold uh at h;rw[bu] at h;split at h
 ·rename_i hc;obtain⟨K,u⟩:=Mi hc;refine Jc (A:=zM P ops) (n:=n) (d:=d) (t₀:=t) (ρ₀:=O) (σ₀:=V) (w₀:=w) K E rl m Z I ops.size (km P ops) [] t V _ O _ a ?_ ?_
  ·refine⟨h,u,hi.drew,eF.drew O V w,hd,F,C.1,by simp,fun i hi=>(by cases hi),trivial,fun i b=>absurd b jO,fun i hi=>(by cases hi),fun i j _ b=>absurd b jO,fun i j _ hi=>(by cases hi),fun i hi=>(by cases hi),
    fun i k v b=>absurd b jO,fun k v _ hv=>C.2 k v hv,fun _ _=>Z,fun i hi=>(by cases hi),?_⟩
   simp_all
  exact Nat.le_trans List.countP_le_length (by simp)
 cases h
theorem BN {ro:Option Pos} {rl:Option Nat} {d d₁:List DE} {V A:N} {df:Pos} {O:Ren} {w:World} {a:Act} {t:PT J} {n:Nat} (h:wM ro d V=some (df,A,d₁)) (hi:Inv O V w) (K:TR O t n a.tmps) (hd:DR O d a.defers) (C:RO O ro rl)
  (fn:FuncId) (ps:Array Tmp) (assign body:Code):
  ∃l mark w₁ ρ₁,(Instr.enterLoop fn a.tmps ps assign body rl).run P w= .ok (l,mark) w₁/\Inv ρ₁ (A.alloc (.loop .ready none t n ps.toList assign body df)) w₁/\eF O V w ρ₁ (A.alloc (.loop .ready none t n ps.toList assign body df)) w₁/\
   ρ₁ A.next=some ⟨l,0,0⟩/\DR ρ₁ d₁ (mark++a.defers):=by
 unfold wM at h;cases ro with
 | none=>
  cases rl with
  | some _=>exact C.elim
  | none=>
  cases h;obtain⟨E,L⟩:=hi.alloc (o:=.mark) (x:=.deferred<|some []) (l:=⟨w.heap.size,0,0⟩) Z Z;have hle1:=L.le hi
  obtain⟨F,u⟩:=E.alloc (o:=.loop .ready none t n ps.toList assign body V.next) (x:=.loop {state:=.ready,pending:=none,fn:=fn,tmps:=a.tmps,params:=ps,assign:=assign,body:=body,defers:=w.heap.size}) (l:=⟨w.heap.size+1,0,0⟩) (by simp)
   ⟨fn,a.tmps,⟨w.heap.size,0,0⟩,by simp,Ren.cy _ _ _,K.mono hle1⟩
  refine⟨_,_,_,_,run_enterLoop_outer fn a.tmps ps assign body,F,L.trans u,Ren.cy _ _ _,?_⟩;exact⟨⟨w.heap.size,0,0⟩,a.defers,u.le E _ _<|Ren.cy _ _ _,Z,hd.mono (fun b l hb=>u.le E _ _ (hle1 b l hb))⟩
 | some b=>
  cases rl with
  | none=>exact C.elim
  | some l₀=>
  obtain⟨loc,hl,rfl⟩:=C;dsimp only at h;cases hb:V.m.get b with
  | none=>rw[hb] at h;cases h
  | some ob=>
  rw[hb] at h;cases ob with
  | loop st p tmps n' ps' as' bd df'=>
   cases h;obtain⟨x,hh,fn',tmps',l',rfl,I,aa⟩:=hi.obj b _ loc hb hl
   obtain⟨F,u⟩:=hi.alloc (o:=.loop .ready none t n ps.toList assign body df) (x:=.loop {state:=.ready,pending:=none,fn:=fn,tmps:=a.tmps,params:=ps,assign:=assign,body:=body,defers:=l'.da}) (l:=⟨w.heap.size,0,0⟩) Z
    ⟨fn,a.tmps,l',by simp,I,K⟩
   exact⟨_,_,_,_,run_enterLoop_inner hh fn a.tmps ps assign body,F,u,Ren.cy _ _ _,hd.mono<|u.le hi⟩
  | _=>cases h
theorem xD {K:Act->World->Prop} {Q:Exit->Act->World->Prop} {O:Ren} {e:Ex} {a:Act} {w:World} (he:e≠ .normal) (h:Qx Q O e a w):Qx (Exit.then K Q) O e a w:=by
 intro E b;have h':=h E b;cases e with
 | normal=>exact absurd Z he
 | jE v=>obtain⟨x,rfl,_⟩:=b;exact h'
 | exit i=>have b:E= .exit i:=b;subst b;exact h'
 | goto i=>have b:E= .goto i:=b;subst b;exact h'
 | ret=>have b:E= .ret:=b;subst b;exact h'
theorem CN {ih:jx} (hS:Sound P G ih) {g:Operand} {ps:Array Tmp} {assign body:Code} {t:PT J} {n:Nat} {d:List DE} {ro:Option Pos} {V:N} {e:Ex} {t':PT J} {d':List DE} {V':N}
  (h:tK P G ih g ps assign body t n d ro V= .ok e t' d' V') {O:Ren} {w:World} {a:Act} {rl:Option Nat} {m:Nat} {Q:Exit->Act->World->Prop} (hi:Inv O V w) (L:GR O G) (F:TR O t n a.tmps) (hd:DR O d a.defers) (hr:RO O ro rl)
  (hQ:∀(ρ':Ren) (w':World) (a':Act),Inv ρ' V' w'->eF O V w ρ' V' w'->TR ρ' t' n a'.tmps->DR ρ' d' a'.defers->Qx Q ρ' e a' w'):(Code.rangeFunc g ps assign body).wpIn (kN rl) m P Q a w:=by
 unfold tK at h;cases hm:wM ro d V with
 | none=>rw[hm] at h;cases h
 | some q=>
 obtain⟨df,A,d₁⟩:=q;rw[hm] at h;dsimp only at h;cases hv:bn G t g with
 | none=>rw[hv] at h;cases h
 | some fv=>
 rw[hv] at h;cases fv with
 | func f fi ca=>
  dsimp only at h;rw[bu] at h;split at h
  ·rename_i M;refine wpIn_rangeFunc fun fn _=>?_
   obtain⟨l,mark,w₁,ρ₁,g1,I,g3,g4,g5⟩:=BN (P:=P) hm hi F hd hr fn ps assign body;have hle:=g3.le hi;have hfv:=iE (a:=a) L F hv;simp only[VR] at hfv;obtain⟨fi',ca',R,T,U⟩:=hfv
   have C:(resolve a.eval (rangeCall g l) 0).run P w₁= .ok {target:=.fn (.func f) ca',args:=fi'++ #[.func (.yield l) #[] #[]]} w₁:=by
    have W:(#[Operand.const (.func (.yield l) #[] #[])]).map a.eval= #[.func (.yield l) #[] #[]]:=by simp[Act.eval]
    simp only[resolve,rangeCall,W,R,Deferred.ofValue,sP_]
   have hinv:(invoke (.fn (.func f) ca') (fi'++ #[.func (.yield l) #[] #[]])).run P w₁= .ok (.enter f (fi'++ #[.func (.yield l) #[] #[]]++ca')) w₁:=by
    simp only[invoke];exact wB M
   refine⟨l,mark,w₁,_,w₁,f,_,w₁,by rw[Ep];exact g1,C,fun f' _=>l5 rl f',hinv,pR rl m,?_⟩;cases hc:kb P G ih f (gg fi (.yield A.next::ca)) (A.alloc (.loop .ready none t n ps.toList assign body df)) with
   | err k=>rw[hc] at h;cases h
   | jE v K=>rw[hc] at h;cases h
   | ret v K=>
   rw[hc] at h;dsimp only at h;refine rp hS hc I (L.mono hle) ?_ rl _ fun ρ₃ w₃ x i₃ s₃ hx=>?_
   ·rw[dH];have:(fi'++ #[Value.func (.yield l) #[] #[]]++ca').toList=fi'.toList++(.func (.yield l) #[] #[]::ca'.toList):=by simp
    rw[this];refine cT.append (cT.mono hle _ _ T)<|cT.cons ?_<|cT.mono hle _ _ U;simp only[VR];exact⟨_,g4,Z⟩
   have hl₃:=s₃.le I _ _ g4;have hle₃:O.le ρ₃:=fun b l hb=>s₃.le I _ _ (hle b l hb)
   unfold DO at h;cases hb:K.m.get A.next with
   | none=>rw[hb] at h;cases h
   | some ob=>
   rw[hb] at h;cases ob with
   | loop st p tmps n' ps' as bd df'=>
    dsimp only at h;obtain⟨y,hh,fn',tmps',l',rfl,X,aa⟩:=i₃.obj _ _ _ hb hl₃;have E:st≠ .busy:=fun aq=>by subst aq;cases h
    have h':(match p with
      | none=>CR.ok .normal t d₁ (K.setObj A.next (.loop .exhausted none tmps n' ps' as bd df'))
      | some c=>ih c t n d₁ ro (K.setObj A.next (.loop .exhausted (some c) tmps n' ps' as bd df')))= .ok e t' d' V':=by
     cases st<;>first | exact absurd rfl E | exact h
    obtain⟨i₄,s₄⟩:=i₃.putObj (o':=.loop .exhausted p tmps n' ps' as bd df') hb hl₃ Z Z
     (x:=.loop {state:=.exhausted,pending:=p,fn:=fn',tmps:=tmps',params:=ps'.toArray,assign:=as,body:=bd,defers:=l'.da}) ⟨fn',tmps',l',Z,X,aa⟩
    refine⟨p,_,run_endLoop hh E,?_⟩;have aq:=(g3.trans s₃).trans s₄;have u:ρ₁.le ρ₃:=s₃.le I;cases p with
    | none=>
     cases h';exact hQ ρ₃ _ {a with defers:=mark++a.defers} i₄ aq (F.mono hle₃) (g5.mono u) _ Z
    | some c=>
     exact hS.run c t n d₁ ro _ e t' d' V' h' ρ₃ _ {a with defers:=mark++a.defers} rl m Q i₄ (L.mono hle₃) (F.mono hle₃) (g5.mono u) (hr.mono hle₃) fun ρ' w' a' i' s' t'' d''=>hQ ρ' w' a' i' (aq.trans s') t'' d''
   | _=>cases h
  cases h
 | _=>cases h
theorem H4 (hm:P.follows .mixedOrders=true) (T:xP P G) (k:Nat):Sound P G (ea P G k):=by
 induction k using Nat.strongRecOn with
 | _ k ihk=>
  cases k with
  | zero=>exact⟨T,fun c t n d ro V e t' d' V' h=>by cases h⟩
  | succ j=>
   have hS:=ihk j (Nat.lt_succ_self j);refine⟨T,fun c t n d ro V e t' d' V' h O w a rl m Q hi I F hd K A=>?_⟩;have h:GJ P G (ea P G j) c t n d ro V= .ok e t' d' V':=h;cases c with
   | skip=>cases h;exact wpIn_skip<|A O w a hi (eF.refl _ _ _) F hd _ Z
   | label l=>cases h;exact wpIn_label<|A O w a hi (eF.refl _ _ _) F hd _ Z
   | exit id=>cases h;exact wpIn_exit<|A O w a hi (eF.refl _ _ _) F hd _ Z
   | ret=>cases h;exact wpIn_ret<|A O w a hi (eF.refl _ _ _) F hd _ Z
   | region id ops draw=>
    cases draw with
    | false=>
     have h':(bif lD ops.toList then .err 96 else BU d (se P G (ea P G j) ops n d ops.toList t V))= .ok e t' d' V':=h;refine wpIn_region ?_;rw[bu] at h';split at h'
     ·cases h'
     have:=tF hS rl (m:=m) (Q:=Q) ops.toList 0 Z t V O w a h' hi I F hd A;rw[List.range_eq_range'];simpa using this
    | true=>
     have h':uh P G (ea P G j) ops n d t V= .ok e t' d' V':=h
     grind [wpIn_region_any,Ej]
   | seq x y=>
    have h':uS (ea P G j x t n d ro V) (fun t d V=>ea P G j y t n d ro V)= .ok e t' d' V':=h;refine wpIn_seq ?_;cases hx:ea P G j x t n d ro V with
    | err q=>rw[hx] at h';cases h'
    | ok e₁ t₁ d₁ C=>
     rw[hx] at h'
     by_cases he:e₁= .normal
     ·subst he;refine hS.run x t n d ro V _ t₁ d₁ C hx O w a rl m _ hi I F hd K fun ρ₁ w₁ a₁ i₁ s₁ ht₁ b E u=>?_
      have u:E= .normal:=u;subst u;have hle:=s₁.le hi;exact hS.run y t₁ n d₁ ro C e t' d' V' h' ρ₁ w₁ a₁ rl m Q i₁ (I.mono hle) ht₁ b (K.mono hle) fun ρ' w' a' i' s'=>A ρ' w' a' i' (s₁.trans s')
     have h'':CR.ok e₁ t₁ d₁ C= .ok e t' d' V':=by cases e₁<;>first | exact absurd rfl he | exact h'
     cases h'';exact hS.run x t n d ro V _ _ _ _ hx O w a rl m _ hi I F hd K fun ρ₁ w₁ a₁ i₁ s₁ ht₁ b=>xD he (A ρ₁ w₁ a₁ i₁ s₁ ht₁ b)
   | cond x y z=>
    have h':yw (bn G t x) (ea P G j y t n d ro V) (ea P G j z t n d ro V)= .ok e t' d' V':=h;unfold yw at h';split at h'
    ·rename_i hv;have:=iE (a:=a) I F hv;simp only[VR] at this;exact wpIn_cond_true this<|hS.run y t n d ro V e t' d' V' h' O w a rl m Q hi I F hd K A
    ·rename_i hv;have:=iE (a:=a) I F hv;simp only[VR] at this;exact wpIn_cond_false this<|hS.run z t n d ro V e t' d' V' h' O w a rl m Q hi I F hd K A
    cases h'
   | block id x=>
    have h':q9 id (ea P G j x t n d ro V)= .ok e t' d' V':=h;refine wpIn_block ?_;cases hx:ea P G j x t n d ro V with
    | err q=>rw[hx] at h';cases h'
    | ok e₁ t₁ d₁ C=>
     rw[hx] at h';refine hS.run x t n d ro V e₁ t₁ d₁ C hx O w a rl m _ hi I F hd K fun ρ₁ w₁ a₁ i₁ s₁ ht₁ b E u=>?_
     cases e₁ with
     | exit q=>
      have u:E= .exit q:=u;subst u;unfold q9 at h';dsimp only at h';rw[bu] at h';split at h'
      ·rename_i hq;cases h';have:=nB hq;subst this;simp only[Exit.inBlock,if_true];exact A ρ₁ w₁ a₁ i₁ s₁ ht₁ b _ Z
      rename_i hq;cases h';have hne:¬q=id:=fun e=>hq (by simp_all)
      simp only[Exit.inBlock,if_neg hne];exact A ρ₁ w₁ a₁ i₁ s₁ ht₁ b _ Z
     | normal=>have u:E= .normal:=u;subst u;cases h';exact A ρ₁ w₁ a₁ i₁ s₁ ht₁ b _ Z
     | goto q=>have u:E= .goto q:=u;subst u;cases h';exact A ρ₁ w₁ a₁ i₁ s₁ ht₁ b _ Z
     | ret=>have u:E= .ret:=u;subst u;cases h';exact A ρ₁ w₁ a₁ i₁ s₁ ht₁ b _ Z
     | jE v=>cases h';have h2:=A ρ₁ w₁ a₁ i₁ s₁ ht₁ b E u;obtain⟨y,rfl,_⟩:=u;exact h2
   | scope x=>
    have h':E8 (ea P G j x t n d ro V)= .ok e t' d' V':=h;refine Fw ?_;cases hx:ea P G j x t n d ro V with
    | err q=>rw[hx] at h';cases h'
    | ok e₁ t₁ d₁ C=>
     rw[hx] at h';refine hS.run x t n d ro V e₁ t₁ d₁ C hx O w a rl m _ hi I F hd K fun ρ₁ w₁ a₁ i₁ s₁ ht₁ b E u=>?_
     cases e₁ with
     | goto q=>cases h'
     | normal=>have u:E= .normal:=u;subst u;cases h';exact A ρ₁ w₁ a₁ i₁ s₁ ht₁ b _ Z
     | exit q=>have u:E= .exit q:=u;subst u;cases h';exact A ρ₁ w₁ a₁ i₁ s₁ ht₁ b _ Z
     | ret=>have u:E= .ret:=u;subst u;cases h';exact A ρ₁ w₁ a₁ i₁ s₁ ht₁ b _ Z
     | jE v=>cases h';have h2:=A ρ₁ w₁ a₁ i₁ s₁ ht₁ b E u;obtain⟨y,rfl,_⟩:=u;exact h2
   | loop x=>
    refine wpIn_loop_ghost (fun i a₁ w₁=>i<=j+1/\∃t₁ d₁ C ρ₁,ea P G i (.loop x) t₁ n d₁ ro C= .ok e t' d' V'/\Inv ρ₁ C w₁/\eF O V w ρ₁ C w₁/\TR ρ₁ t₁ n a₁.tmps/\DR ρ₁ d₁ a₁.defers) (j+1)
     ⟨nR_ _,t,d,V,O,h,hi,eF.refl _ _ _,F,hd⟩ fun i a₁ w₁ U=>?_
    obtain⟨aa,t₁,d₁,C,ρ₁,L,i₁,s₁,ht₁,b⟩:=U;have hle:=s₁.le hi;cases i with
    | zero=>cases L
    | succ i=>
     have hSi:=ihk i oM;have h':uS (ea P G i x t₁ n d₁ ro C) (fun t d V=>ea P G i (.loop x) t n d ro V)= .ok e t' d' V':=L;cases hx:ea P G i x t₁ n d₁ ro C with
     | err q=>rw[hx] at h';cases h'
     | ok e₂ t₂ d₂ R=>
      rw[hx] at h'
      by_cases he:e₂= .normal
      ·subst he;refine hSi.run x t₁ n d₁ ro C _ t₂ d₂ R hx ρ₁ w₁ a₁ rl m _ i₁ (I.mono hle) ht₁ b (K.mono hle) fun ρ₂ w₂ a₂ i₂ s₂ ht₂ M E u=>?_
       have u:E= .normal:=u;subst u;exact⟨i,Nat.lt_succ_self i,by omega,t₂,d₂,R,ρ₂,h',i₂,s₁.trans s₂,ht₂,M⟩
      have h'':CR.ok e₂ t₂ d₂ R= .ok e t' d' V':=by cases e₂<;>first | exact absurd rfl he | exact h'
      cases h'';exact hSi.run x t₁ n d₁ ro C _ _ _ _ hx ρ₁ w₁ a₁ rl m _ i₁ (I.mono hle) ht₁ b (K.mono hle) fun ρ₂ w₂ a₂ i₂ s₂ ht₂ M=>xD he (A ρ₂ w₂ a₂ i₂ (s₁.trans s₂) ht₂ M)
   | rangeFunc g ps assign body=>exact CN hS h hi I F hd K A
   | _=>cases h
theorem oE (hm:P.follows .mixedOrders=true) (b:xP P G) {fuel f:Nat} {args:List J} {V V':N} {v:J} (h:v7 P G fuel f args V= .ret v V') {O:Ren} {w:World} {xs:Array Value} (hi:Inv O V w) (d:GR O G) (hx:cT O args xs.toList)
  {R:Ending->World->Prop} (m:∀(ρ':Ren) (w':World) (x:Value),Inv ρ' V' w'->eF O V w ρ' V' w'->VR ρ' v x->R (.returned x) w'):Calls P f xs w R:=
 callsIn_wide.1 (rp (H4 hm b fuel) h hi d hx none 0 m)
def V0:N:=⟨0,.leaf⟩
theorem Qg (w:World) (d:G9 w):Inv (fun _=>none) V0 w:=
 ⟨⟨fun b _=>⟨Z,PT.jh b⟩,fun b l h=>(by cases h),fun b o l _ h=>(by cases h),fun b b' o o' l l' _ _ h=>(by cases h)⟩,d.1,d.2,fun r _ ⟨b,o,l,_,_,h,_⟩=>by cases h⟩
end
end Go.Ev
namespace Go.Ev
variable [Env]
open Go.ChangeShapes Go.WideShapes Go.ChangeAt Go.RowKit
theorem hJ.kept {w w':World} (h:hJ w w') (may:MemPlace->Prop):w.keptBut w' may:=by
 refine⟨h.os,h.out.1,fun i hi=>?_⟩;rw[h.same i hi]
 grind
theorem hJ.frozen {w w':World} (h:hJ w w') (a:Addr) (b:a.block<w.heap.size):w'.frozen? a=w.frozen? a:=by
 unfold World.frozen?;rw[h.same a.block b]
theorem EX {H_:Type} {enc:TypeId×Value->H_} {P:Program} {f:Func} {s:ChangeSpec} {apart fresh handsOn again:Bool} {W W':World} {args:Array Value} {v:Value} {ds gs:List (DataW H_)} {before pa pv:List MemPlace}
  (C:DataW.Whole enc P f.params.toList s.vars apart W args.toList ds gs before)
  (u:∀(b:Nat) (sp:Nat->Bool) (hd:Bool),DataW.TrodAll enc P W' b sp hd f.resultTypes.toList (v.resultList f.resultTypes.size) (s.fn H_ (ds++gs)).results [])
  (d:∀sp:Nat->Bool,(∀p∈before,sp p.block=true)->DataW.TrodAll enc P W' 0 sp true f.params.toList args.toList (s.fn H_ (ds++gs)).args pa)
  (m:∀sp:Nat->Bool,(∀p∈before,sp p.block=true)->DataW.TrodVars enc P W' sp s.vars (s.fn H_ (ds++gs)).vars pv)
  (aa:before=pa++pv) (hk:hJ W W')
  (E:∀(j:Nat) (t:TypeId) (r:Value),f.resultTypes[j]? =some t->(v.resultList f.resultTypes.size)[j]? =some r->Value.okWide P W' .any 0 t r):
  s.post enc P f apart fresh handsOn again W args v W':=by
 have hold:∀p∈before,(fun b=>decide (b<W.heap.size)) p.block=true:=fun p hp=>by simpa using C.lt p hp
 refine⟨ds,gs,before,[],pa,pv,C,u _ _ _,d _ hold,m _ hold,hk.kept _,fun _=>?_⟩;have hlt:=C.lt;obtain⟨_,_,_,_,_,hz,hn⟩:=C;refine⟨E,_,_,([]++pa)++pv,⟨[]++pa,pv,trodAll_append (d _ (fun _ _=>Z))<|u _ _ _,m _ (fun _ _=>Z),Z,?_,?_⟩,?_⟩
 ·intro b off hp;have A:MemPlace.cell b off∈before:=by simp_all
  rw[hk.frozen _<|hlt _ A];exact hz b off A
 ·simp_all
 simp_all
end Go.Ev
namespace Go.Ev
variable [Env]
structure IK where
 k:IntKind
 n:Int
structure PO where
 b:Pos
 off:Nat
structure SL where
 b:Pos
 off:Nat
 len:Nat
def PF:J->Option IK
 | .int k n=>some ⟨k,n⟩
 | _=>none
def Ry:J->Option PO
 | .ptr b off=>some ⟨b,off⟩
 | _=>none
def SZ:J->Option SL
 | .slice b off len _=>some ⟨b,off,len⟩
 | _=>none
def SY:J->Option Nat
 | .int _ (.ofNat i)=>some i
 | _=>none
def SX:J->Option Bool
 | .bool b=>some b
 | _=>none
def S0:J->Option (List J)
 | .tuple l=>some l
 | _=>none
def rowOf:cu->Option (List J)
 | .row cells _ _=>some cells
 | .own cells _=>some cells
 | _=>none
theorem Bx {v:J} {i:IK} (h:PF v=some i):v= .int i.k i.n:=by
 unfold PF at h;grind
def oc (V:N) (e:Nat) (v:Option J):HR:=Option.rec (motive:=fun _=>HR) (.err e) (fun v=>.val v V) v
theorem mh (V:N) (e:Nat) (v:Option J):oc V e v=match v with | some v=>.val v V | none=>.err e:=by cases v<;>rfl
structure Sz where
 run:PT J->Option J
def mW (G:Cx) (x:Operand):Sz:=
 match x with
 | .tmp k=>bif Nat.ble k 255 then⟨fun t=>jz t.s k⟩ else⟨fun t=>t.get k⟩
 | .const v=>⟨fun _=>nP v⟩
 | .global g=>⟨fun _=>bif Nat.ble (Nat.succ g) G.gl then some (.ptr (posOf g) 0) else none⟩
 | .func f=>⟨fun _=>some (.func f [] [])⟩
theorem iG (G:Cx) (x:Operand) (t:PT J):(mW G x).run t=bn G t x:=by
 cases x with
 | tmp k=>
  show(bif Nat.ble k 255 then(⟨fun t=>jz t.s k⟩:Sz) else⟨fun t=>t.get k⟩).run t=t.get k
  grind [PT.oI,nj]
 | _=>rfl
structure Sx where
 run:J->J->Option J
def JB (P:Program) (q:Bool) (o:BinOp) (ty:TypeId) (f:IntKind->Int->Int->J) (a b:J):Option J:=
 Option.rec (motive:=fun _=>Option J) (q8 P q o ty a b) (fun i=>Option.rec (motive:=fun _=>Option J) (q8 P q o ty a b) (fun j=>bif sQ i.k j.k then some (f i.k i.n j.n) else none) (PF b)) (PF a)
theorem OH {P:Program} {q:Bool} {o:BinOp} {ty:TypeId} {f:IntKind->Int->Int->J} (h:∀k x k' y,q8 P q o ty (.int k x) (.int k' y)=bif sQ k k' then some (f k x y) else none) (a b:J):JB P q o ty f a b=q8 P q o ty a b:=by
 unfold JB;cases d:PF a with
 | none=>rfl
 | some i=>
  cases hb:PF b with
  | none=>rfl
  | some j=>
   rw[Bx d,Bx hb,h]
def Td (_:IntKind) (x y:Int):J:=.bool (dy x y)
def S9 (_:IntKind) (x y:Int):J:=.bool (dy y x)
def Tb (_:IntKind) (x y:Int):J:=.bool (bif dy y x then false else true)
def S8 (_:IntKind) (x y:Int):J:=.bool (bif dy x y then false else true)
def S6 (_:IntKind) (x y:Int):J:=.bool (bM x y)
def Tf (_:IntKind) (x y:Int):J:=.bool (bif bM x y then false else true)
def Rx (k:IntKind) (x y:Int):J:=.int k (wr k<|Int.add x y)
def Sj (k:IntKind) (x y:Int):J:=.int k (wr k<|Int.sub x y)
def RX (k:IntKind) (x y:Int):J:=.int k (wr k<|Int.mul x y)
def P2 (P:Program) (q:Bool) (o:BinOp) (ty:TypeId):Sx:=
 match o with
 | .lss=>⟨JB P q .lss ty Td⟩
 | .gtr=>⟨JB P q .gtr ty S9⟩
 | .leq=>⟨JB P q .leq ty Tb⟩
 | .geq=>⟨JB P q .geq ty S8⟩
 | .eql=>⟨JB P q .eql ty S6⟩
 | .neq=>⟨JB P q .neq ty Tf⟩
 | .add=>⟨JB P q .add ty Rx⟩
 | .sub=>⟨JB P q .sub ty Sj⟩
 | .mul=>⟨JB P q .mul ty RX⟩
 | o=>⟨fun a b=>q8 P q o ty a b⟩
theorem Oq (P:Program) (q:Bool) (o:BinOp) (ty:TypeId) (a b:J):(P2 P q o ty).run a b=q8 P q o ty a b:=by
 cases o<;>first | rfl | exact OH (fun _ _ _ _=>Z) a b
def P1 (c:Sx) (x y:Option J):Option J:=
 Option.rec (motive:=fun _=>Option J) none (fun a=>Option.rec (motive:=fun _=>Option J) none (fun b=>c.run a b) y) x
def Gq (c a b:Option J):Option J:=
 Option.rec (motive:=fun _=>Option J) none (fun c=>Option.rec (motive:=fun _=>Option J) none (fun c=>bif c then a else b) (SX c)) c
def P8 (i:Nat) (x:Option J):Option J:=
 Option.rec (motive:=fun _=>Option J) none (fun x=>Option.rec (motive:=fun _=>Option J) none (fun l=>nth l i) (S0 x)) x
def RS (ag:Option (Option Nat)) (cells:List J) (off:Nat):Option J:=
 Option.rec (motive:=fun _=>Option J) none (fun o=>Option.rec (motive:=fun _=>Option J) (nth cells off) (fun n=>bif Nat.ble (Nat.add off n) (di cells) then some (.agg<|takeN (dK cells off) n) else none) o) ag
def Cm (ag:Option (Option Nat)) (V:N) (x:Option J):Option J:=
 Option.rec (motive:=fun _=>Option J) none (fun v=>Option.rec (motive:=fun _=>Option J) none (fun p=>Option.rec (motive:=fun _=>Option J) none
  (fun o=>Option.rec (motive:=fun _=>Option J) none (fun cells=>RS ag cells p.off) (rowOf o)) (V.m.get p.b))<|Ry v) x
def mR (P:Program) (s:TypeId) (i:Nat):Option Nat:=
 match structOf P s with
 | some fs=>match fs[i]? with
  | some f=>match um P f.type with
   | some j=>bif Nat.beq j.size 0 then none else some f.offset
   | none=>none
  | none=>none
 | none=>none
def Q8 (k:Option Nat) (x:Option J):Option J:=
 Option.rec (motive:=fun _=>Option J) none (fun k=>Option.rec (motive:=fun _=>Option J) none (fun v=>Option.rec (motive:=fun _=>Option J) none (fun p=>some (.ptr p.b<|Nat.add p.off k)) (Ry v)) x) k
structure IA where
 n:Option Nat
 sz:Nat
def wv (P:Program) (t:TypeId):Option IA:=
 match nK P t with
 | some (.slice e)=>match um P e with | some j=>some ⟨none,j.size⟩ | none=>none
 | some (.array n e)=>match um P e with | some j=>some ⟨some n,j.size⟩ | none=>none
 | _=>none
def RQ (q:IA) (v:J) (i:Nat):Option J:=
 Option.rec (motive:=fun _=>Option J)
  (Option.rec (motive:=fun _=>Option J) none (fun s=>bif Nat.ble (Nat.succ i) s.len then some (.ptr s.b<|Nat.add s.off<|Nat.mul i q.sz) else none)<|SZ v)
  (fun n=>Option.rec (motive:=fun _=>Option J) none (fun p=>bif Nat.ble (Nat.succ i) n then some (.ptr p.b<|Nat.add p.off<|Nat.mul i q.sz) else none) (Ry v)) q.n
def Q9 (q:Option IA) (x i:Option J):Option J:=
 Option.rec (motive:=fun _=>Option J) none (fun q=>Option.rec (motive:=fun _=>Option J) none (fun v=>Option.rec (motive:=fun _=>Option J) none
  (fun w=>Option.rec (motive:=fun _=>Option J) none (fun i=>RQ q v i) (SY w)) i) x) q
structure Rt where
 run:PT J->N->HR
def BE (P:Program) (G:Cx) (V:N) (f:Option J) (args:Option (List J)):HR:=
 Option.rec (motive:=fun _=>HR) (.err 12) (fun g=>Option.rec (motive:=fun _=>HR) (.err 12) (fun args=>vJ P G.ov V g args) args) f
def Hs (G:Cx) (l:List Operand) (t:PT J):Option (List J):=cM (fun x=>(mW G x).run t) l
def MI (P:Program) (G:Cx) (op:Op):Rt:=
 match op with
 | .move x=>⟨fun t V=>oc V 1001 ((mW G x).run t)⟩
 | .assign x=>⟨fun t V=>oc V 1002 ((mW G x).run t)⟩
 | .pick c a b=>⟨fun t V=>oc V 1003 (Gq ((mW G c).run t) ((mW G a).run t) ((mW G b).run t))⟩
 | .binOp o ty x y _=>⟨fun t V=>oc V 1014 (P1 (P2 P (yQ x || yQ y) o ty) ((mW G x).run t) ((mW G y).run t))⟩
 | .extract x i=>⟨fun t V=>oc V 1036 (P8 i ((mW G x).run t))⟩
 | .load ty x=>⟨fun t V=>oc V 2009 (Cm (dN P ty) V ((mW G x).run t))⟩
 | .fieldAddr s x i=>⟨fun t V=>oc V 1024 (Q8 (mR P s i) ((mW G x).run t))⟩
 | .indexAddr ty x i=>⟨fun t V=>oc V 1026 (Q9 (wv P ty) ((mW G x).run t) ((mW G i).run t))⟩
 | .call c=>match c.callee with
  | .value f=>⟨fun t V=>BE P G V ((mW G f).run t) (Hs G c.args.toList t)⟩
  | _=>⟨fun t V=>dM P G (bn G t) V (.call c)⟩
 | op=>⟨fun t V=>dM P G (bn G t) V op⟩
theorem Kb (P:Program) (G:Cx) (op:Op) (t:PT J) (V:N):(MI P G op).run t V=dM P G (bn G t) V op:=by
 cases op with
 | move x=>show oc V 1001 ((mW G x).run t)=_;rw[iG,mh];rfl
 | assign x=>show oc V 1002 ((mW G x).run t)=_;rw[iG,mh];rfl
 | pick c a b=>
  show oc V 1003 (Gq ((mW G c).run t) ((mW G a).run t) ((mW G b).run t))=_;rw[iG,iG,iG,mh]
  have:Gq (bn G t c) (bn G t a) (bn G t b)=du P (bn G t) (.pick c a b):=by
   simp only[du,Gq];cases bn G t c with
   | none=>rfl
   | some v=>cases v<;>first | rfl | (rename_i b;cases b<;>rfl)
  rw[this];rfl
 | binOp o ty x y r=>
  show oc V 1014 (P1 (P2 P (yQ x || yQ y) o ty) ((mW G x).run t) ((mW G y).run t))=_;rw[iG,iG,mh]
  have:P1 (P2 P (yQ x || yQ y) o ty) (bn G t x) (bn G t y)=du P (bn G t) (.binOp o ty x y r):=by
   simp only[du,P1];cases bn G t x with
   | none=>rfl
   | some v=>
    cases bn G t y with
    | none=>rfl
    | some u=>exact Oq P _ o ty v u
  rw[this];rfl
 | extract x i=>
  show oc V 1036 (P8 i ((mW G x).run t))=_;rw[iG,mh]
  have:P8 i (bn G t x)=du P (bn G t) (.extract x i):=by
   simp only[du,P8];cases bn G t x with
   | none=>rfl
   | some v=>cases v<;>rfl
  rw[this];rfl
 | load ty x=>
  show oc V 2009 (Cm (dN P ty) V ((mW G x).run t))=_;rw[iG,mh]
  have:Cm (dN P ty) V (bn G t x)=eY P (bn G t) V (.load ty x):=by
   simp only[eY,Cm];cases bn G t x with
   | none=>rfl
   | some v=>
    cases v<;>first | rfl | skip
    rename_i b off;show Option.rec (motive:=fun _=>Option J) none _ (V.m.get b)=_;cases hb:V.m.get b with
    | none=>dsimp only;rw[hb]
    | some o=>
     dsimp only;rw[hb];cases o<;>first | rfl | skip
     all_goals
      show RS (dN P ty) _ off=_;unfold RS;cases dN P ty with
      | none=>rfl
      | some q=>cases q<;>rfl
  rw[this];rfl
 | fieldAddr s x i=>
  show oc V 1024 (Q8 (mR P s i) ((mW G x).run t))=_;rw[iG,mh]
  have:Q8 (mR P s i) (bn G t x)=du P (bn G t) (.fieldAddr s x i):=by
   simp only[du,mR,oJ];cases structOf P s with
   | none=>rfl
   | some fs=>
    dsimp only;cases hx:bn G t x with
    | none=>
     cases fs[i]? with
     | none=>rfl
     | some f=>dsimp only;cases P.info? f.type with
      | none=>rfl
      | some j=>dsimp only;cases Nat.beq j.size 0<;>rfl
    | some v=>
     cases hf:fs[i]? with
     | none=>cases v<;>first | rfl | (simp only[hf];rfl)
     | some f=>
      dsimp only;cases hj:P.info? f.type with
      | none=>cases v<;>first | rfl | (simp only[hf,hj];rfl)
      | some j=>
       dsimp only;cases hz:Nat.beq j.size 0<;>(cases v<;>first | rfl | (simp only[hf,hj,hz];rfl))
  rw[this];rfl
 | indexAddr ty x i=>
  show oc V 1026 (Q9 (wv P ty) ((mW G x).run t) ((mW G i).run t))=_;rw[iG,iG,mh]
  have:Q9 (wv P ty) (bn G t x) (bn G t i)=du P (bn G t) (.indexAddr ty x i):=by
   simp only[du,wv,oJ,nc];cases hu:P.underlying ty with
   | none=>rfl
   | some d=>
    cases d<;>first | rfl | skip
    all_goals
     dsimp only;rename_i e;cases hj:P.info? e with
     | none=>
      cases bn G t x with
      | none=>rfl
      | some v=>cases v<;>first | rfl | (cases bn G t i with
       | none=>rfl
       | some u=>cases u<;>first | rfl | (rename_i k n;cases n<;>first | rfl | (simp only[hj];rfl)))
     | some j=>
      cases bn G t x with
      | none=>rfl
      | some v=>cases v<;>first | (cases bn G t i with
       | none=>rfl
       | some u=>cases u<;>first | rfl | (rename_i k n;cases n<;>first | rfl | (simp only[hj];rfl)))
  rw[this];rfl
 | call c=>
  cases hc:c.callee with
  | value f=>
   have h1:(MI P G (.call c)).run t V=BE P G V ((mW G f).run t) (Hs G c.args.toList t):=by
    show(match c.callee with
     | .value f=>(⟨fun t V=>BE P G V ((mW G f).run t) (Hs G c.args.toList t)⟩:Rt)
     | _=>⟨fun t V=>dM P G (bn G t) V (.call c)⟩).run t V=_
    rw[hc]
   have A:dM P G (bn G t) V (.call c)=fw P G.ov (bn G t) V (.call c):=by
    grind [dM,kindOf]
   have C:Hs G c.args.toList t=tb (bn G t) c.args.toList:=by
    unfold Hs tb;congr 1;funext x;exact iG G x t
   rw[h1,A,iG,C];simp only[fw,hc,BE];cases bn G t f with
   | none=>rfl
   | some g=>cases tb (bn G t) c.args.toList<;>rfl
  | _=>
   show(match c.callee with
     | .value f=>(⟨fun t V=>BE P G V ((mW G f).run t) (Hs G c.args.toList t)⟩:Rt)
     | _=>⟨fun t V=>dM P G (bn G t) V (.call c)⟩).run t V=_
   rw[hc]
 | _=>rfl
structure PV where
 run:PT J->J->Nat->(PT J->CR)->CR
structure SV where
 run:J->PT J->PT J
def Iz (j:Nat):SV:=
 bif Nat.ble j 255 then⟨fun v t=>PT.rec (motive:=fun _=>PT J) (fun s m l=>⟨(xG<|Nat.div j 16).run s ((xG<|Nat.mod j 16).run ((jr<|Nat.div j 16).run s)<|some v),m,l⟩) t⟩
 else⟨fun v t=>t.put (some v) j⟩
theorem OX (j:Nat) (v:J) (t:PT J):(Iz j).run v t=t.put (some v) j:=by
 unfold Iz;cases h:Nat.ble j 255 with
 | true=>
  cases t with
  | mk s m l=>exact(PT.ss (some v) s m l ((nj j 255).1 h)).symm
 | false=>rfl
def OY (j:Nat) (v:J) (t:PT J):PT J:=(Iz j).run v t
theorem MX (j:Nat) (v:J) (t:PT J):OY j v t=t.put (some v) j:=OX j v t
def y8 (n:Nat) (dst:Option Nat):PV:=
 match dst with
 | none=>⟨fun t _ _ k=>k t⟩
 | some j=>bif Nat.ble (Nat.succ j) n then⟨fun t v _ k=>k (OY j v t)⟩ else⟨fun _ _ e _=>.err e⟩
theorem w8 (n:Nat) (dst:Option Nat) (t:PT J) (v:J) (e:Nat) (k:PT J->CR):(y8 n dst).run t v e k=match dA t n dst v with | some t'=>k t' | none=>.err e:=by
 cases dst with
 | none=>rfl
 | some j=>
  show(bif Nat.ble (Nat.succ j) n then(⟨fun t v _ k=>k (OY j v t)⟩:PV) else⟨fun _ _ e _=>.err e⟩).run t v e k=_;show _=match(bif Nat.ble (Nat.succ j) n then some (t.put (some v) j) else none) with | some t'=>k t' | none=>.err e
  rw[<-MX]
  grind
structure SR where
 run:jx->List J->N->KR
def Sc (P:Program) (G:Cx) (ih:jx) (fn:Func) (r:CR):KR:=
 match r with
 | .ok .normal t d V=>xW P G ih fn .ret t d V
 | .ok .ret t d V=>xW P G ih fn .ret t d V
 | .ok (.jE v) t d V=>xW P G ih fn (.jE v) t d V
 | .err k=>.err k
 | _=>.err 72
def OC (P:Program) (G:Cx) (fn:Func) (c:Code) (ih:jx) (args:List J) (V:N):KR:=
 Option.rec (motive:=fun _=>KR) (.err 73) (fun t=>Sc P G ih fn (ih c t fn.ntmps [] none V)) (qA fn.ntmps args)
def RJ (P:Program) (G:Cx) (f:Nat):SR:=
 match nth P.funcs.toList f with
 | some fn=>match fn.body with
  | some c=>⟨OC P G fn c⟩
  | none=>⟨fun _ _ _=>.err 73⟩
 | none=>⟨fun _ _ _=>.err 74⟩
theorem OB (P:Program) (G:Cx) (f:Nat) (ih:jx) (args:List J) (V:N):(RJ P G f).run ih args V=lV P G ih f args V:=by
 unfold RJ lV;rw[eU,aT_];cases P.funcs[f]? with
 | none=>rfl
 | some fn=>
  dsimp only;cases hb:fn.body with
  | none=>rfl
  | some c=>
   dsimp only;show OC P G fn c ih args V=_;unfold OC;cases qA fn.ntmps args with
   | none=>rfl
   | some t=>rfl
def BC (P:Program) (G:Cx) (ih:jx) (f:Nat) (args:List J) (V:N):KR:=
 Option.rec (motive:=fun _=>KR) (Option.rec (motive:=fun _=>KR) (Option.rec (motive:=fun _=>KR) (bif G.fk f then tC (Jr P G ih f args V) else(RJ P G f).run ih args V) (fun c=>.err c)<|G.stop f args V) (fun v=>bif fj args && (qJ v && tv G.gl V G.laid) then .ret v V else .err 79)<|G.Ld f args) (fun r=>.ret r.1 r.2) (G.x6 f args V)
theorem BD (P:Program) (G:Cx) (ih:jx) (f:Nat) (args:List J) (V:N):BC P G ih f args V=kb P G ih f args V:=by
 unfold BC kb;rw[OB];cases G.x6 f args V with
 | some v=>rfl
 | none=>
 dsimp only;cases G.Ld f args with
 | some v=>rfl
 | none=>
  dsimp only;cases G.stop f args V<;>rfl
structure LR where
 run:jx->PT J->N->(PT J->N->CR)->CR
def LJ (k:PT J->N->CR) (V:N) (t:PT J):CR:=k t V
def Rb (pn:Bool) (c:PV) (t:PT J) (k:PT J->N->CR) (r:KR):CR:=
 KR.rec (motive:=fun _=>CR) (fun v V=>c.run t v 80 (LJ k V)) (fun v V=>MK pn v t V) (fun e=>.err e) r
def Mp (P:Program) (G:Cx) (ih:jx) (pn:Bool) (c:PV) (t:PT J) (k:PT J->N->CR) (r:HR):CR:=
 HR.rec (motive:=fun _=>CR) (fun v V=>c.run t v 80 (LJ k V)) (fun V=>c.run t unit 80 (LJ k V)) (fun f args V=>Rb pn c t k (BC P G ih f args V)) (fun l args V=>Rb pn c t k (lN ih l args V)) (fun v V=>MK pn v t V) (fun e=>.err e) r
def Ls (ops:Array Oper) (o:Oper) (c:PV) (t:PT J) (V:N) (k:PT J->N->CR) (go:CR) (w:Option Bool):CR:=
 Option.rec (motive:=fun _=>CR) (.err 85) (fun b=>bif b then go else c.run t unit 84 (LJ k V)) w
def SP (P:Program) (G:Cx) (j:Nat) (op:Op):Option LR:=
 match op with
 | .move x=>some ⟨fun _ t V k=>Option.rec (motive:=fun _=>CR) (.err 1001) (fun v=>k ((Iz j).run v t) V) ((mW G x).run t)⟩
 | .assign x=>some ⟨fun _ t V k=>Option.rec (motive:=fun _=>CR) (.err 1002) (fun v=>k ((Iz j).run v t) V) ((mW G x).run t)⟩
 | .binOp o ty x y _=>some ⟨fun _ t V k=>Option.rec (motive:=fun _=>CR) (.err 1014) (fun v=>k ((Iz j).run v t) V) (P1 (P2 P (yQ x || yQ y) o ty) ((mW G x).run t) ((mW G y).run t))⟩
 | .extract x i=>some ⟨fun _ t V k=>Option.rec (motive:=fun _=>CR) (.err 1036) (fun v=>k ((Iz j).run v t) V) (P8 i ((mW G x).run t))⟩
 | .load ty x=>some ⟨fun _ t V k=>Option.rec (motive:=fun _=>CR) (.err 2009) (fun v=>k ((Iz j).run v t) V) (Cm (dN P ty) V ((mW G x).run t))⟩
 | .fieldAddr s x i=>some ⟨fun _ t V k=>Option.rec (motive:=fun _=>CR) (.err 1024) (fun v=>k ((Iz j).run v t) V) (Q8 (mR P s i) ((mW G x).run t))⟩
 | .indexAddr ty x i=>some ⟨fun _ t V k=>Option.rec (motive:=fun _=>CR) (.err 1026) (fun v=>k ((Iz j).run v t) V) (Q9 (wv P ty) ((mW G x).run t) ((mW G i).run t))⟩
 | _=>none
theorem Po {P:Program} {G:Cx} {pn:Bool} {n j:Nat} (hj:Nat.ble (Nat.succ j) n=true) {op:Op} {c:LR} (h:SP P G j op=some c) (ih:jx) (t:PT J) (V:N) (k:PT J->N->CR):
  c.run ih t V k=Mp P G ih pn (y8 n<|some j) t k ((MI P G op).run t V):=by
 have key:∀(e:Nat) (x:Option J),Option.rec (motive:=fun _=>CR) (.err e) (fun v=>k ((Iz j).run v t) V) x=Mp P G ih pn (y8 n<|some j) t k (oc V e x):=by
  intro e x;cases x with
  | none=>rfl
  | some v=>
   show k ((Iz j).run v t) V=(y8 n<|some j).run t v 80 (LJ k V);unfold y8;dsimp only;rw[hj];rfl
 cases op<;>first | (cases h;done) | (cases h;exact key _ _)
def Si (P:Program) (G:Cx) (pn:Bool) (n:Nat) (o:Oper):LR:=
 match o.dst with
 | some j=>bif Nat.ble (Nat.succ j) n then(match SP P G j o.op with | some c=>c | none=>⟨fun ih t V k=>Mp P G ih pn (y8 n<|some j) t k ((MI P G o.op).run t V)⟩) else⟨fun ih t V k=>Mp P G ih pn (y8 n<|some j) t k ((MI P G o.op).run t V)⟩
 | none=>⟨fun ih t V k=>Mp P G ih pn (y8 n none) t k ((MI P G o.op).run t V)⟩
theorem Pn (P:Program) (G:Cx) (pn:Bool) (n:Nat) (o:Oper) (ih:jx) (t:PT J) (V:N) (k:PT J->N->CR):(Si P G pn n o).run ih t V k=Mp P G ih pn (y8 n o.dst) t k ((MI P G o.op).run t V):=by
 unfold Si;cases hd:o.dst with
 | none=>rfl
 | some j=>
  dsimp only;cases hj:Nat.ble (Nat.succ j) n with
  | false=>rfl
  | true=>
   simp only[cond_true]
   grind [Po]
def LP (P:Program) (G:Cx) (pn:Bool) (ops:Array Oper) (n:Nat) (o:Oper):LR:=
 match o.guard with
 | none=>Si P G pn n o
 | some _=>⟨fun ih t V k=>Ls ops o (y8 n o.dst) t V k (Mp P G ih pn (y8 n o.dst) t k ((MI P G o.op).run t V)) (bF ops t o)⟩
theorem Jy (P:Program) (G:Cx) (ih:jx) (pn:Bool) (n:Nat) (dst:Option Nat) (t:PT J) (k:PT J->N->CR) (r:HR):
  Mp P G ih pn (y8 n dst) t k r=match kA P G ih r with | .ret v V'=>(match dA t n dst v with | some t'=>k t' V' | none=>.err 80) | .jE v V'=>MK pn v t V' | .err e=>.err e:=by
 cases r with
 | val v V=>show(y8 n dst).run t v 80 (LJ k V)=_;rw[w8];rfl
 | skip V=>show(y8 n dst).run t unit 80 (LJ k V)=_;rw[w8];rfl
 | enter f args V=>
  show Rb pn (y8 n dst) t k (BC P G ih f args V)=_;rw[BD];show _=match kb P G ih f args V with | .ret v V'=>_ | .jE v V'=>_ | .err e=>_
  cases kb P G ih f args V with
  | ret v V'=>show(y8 n dst).run t v 80 (LJ k V')=_;rw[w8];rfl
  | jE v V'=>rfl
  | err e=>rfl
 | round l args V=>
  show Rb pn (y8 n dst) t k (lN ih l args V)=_;show _=match lN ih l args V with | .ret v V'=>_ | .jE v V'=>_ | .err e=>_
  cases lN ih l args V with
  | ret v V'=>show(y8 n dst).run t v 80 (LJ k V')=_;rw[w8];rfl
  | jE v V'=>rfl
  | err e=>rfl
 | jE v V=>rfl
 | err e=>rfl
theorem Ff (P:Program) (G:Cx) (pn:Bool) (ops:Array Oper) (n:Nat) (o:Oper) (ih:jx) (t:PT J) (V:N) (k:PT J->N->CR):(LP P G pn ops n o).run ih t V k=ig P G ih pn ops n o t V k:=by
 unfold LP ig;cases hg:o.guard with
 | none=>
  grind [bF,Pn,Jy,Kb]
 | some jw=>
  show Ls ops o (y8 n o.dst) t V k (Mp P G ih pn (y8 n o.dst) t k ((MI P G o.op).run t V)) (bF ops t o)=_;rw[Jy,Kb];unfold Ls;cases bF ops t o with
  | none=>rfl
  | some b=>
   grind [LJ,w8]
def Nb (P:Program) (G:Cx) (ops:Array Oper) (n:Nat) (l:List Oper):LR:=
 List.rec (motive:=fun _=>LR) ⟨fun _ t V k=>k t V⟩ (fun o _ c=>⟨fun ih t V k=>(LP P G true ops n o).run ih t V (fun t V=>c.run ih t V k)⟩) l
def xV (d:List DE) (t:PT J) (V:N):CR:=.ok .normal t d V
theorem Gy (P:Program) (G:Cx) (ops:Array Oper) (n:Nat) (ih:jx) (d:List DE):∀(l:List Oper) (t:PT J) (V:N),(Nb P G ops n l).run ih t V (xV d)=se P G ih ops n d l t V
 | [],t,V=>rfl
 | o::l,t,V=>by
  show(LP P G true ops n o).run ih t V (fun t V=>(Nb P G ops n l).run ih t V (xV d))=ig P G ih true ops n o t V (se P G ih ops n d l);rw[Ff];congr 1;funext t' V';exact Gy P G ops n ih d l t' V'
def zI (P:Program) (G:Cx) (ops:Array Oper) (rc:List Nat) (k:PT J->N->CR) (t:PT J) (V:N):CR:=bif dc P G ops t V rc then k t V else .err 86
def w5 (P:Program) (G:Cx) (ops:Array Oper) (n:Nat) (l:List (Nat×List Nat)):LR:=
 List.rec (motive:=fun _=>LR) ⟨fun _ t V k=>k t V⟩ (fun p _ c=>match nth ops.toList p.1 with
  | some o=>(match p.2 with
   | []=>⟨fun ih t V k=>(LP P G false ops n o).run ih t V (fun t V=>c.run ih t V k)⟩
   | rc=>⟨fun ih t V k=>(LP P G false ops n o).run ih t V (zI P G ops rc (fun t V=>c.run ih t V k))⟩)
  | none=>⟨fun _ _ _ _=>.err 87⟩) l
theorem w6 (P:Program) (G:Cx) (ops:Array Oper) (n:Nat) (ih:jx) (d:List DE):∀(l:List (Nat×List Nat)) (t:PT J) (V:N),(w5 P G ops n l).run ih t V (xV d)=jF P G ih ops n d l t V
 | [],t,V=>rfl
 | (i,rc)::l,t,V=>by
  show(match nth ops.toList i with
   | some o=>(match rc with
    | []=>(⟨fun ih t V k=>(LP P G false ops n o).run ih t V (fun t V=>(w5 P G ops n l).run ih t V k)⟩:LR)
    | rc=>⟨fun ih t V k=>(LP P G false ops n o).run ih t V (zI P G ops rc (fun t V=>(w5 P G ops n l).run ih t V k))⟩)
   | none=>⟨fun _ _ _ _=>.err 87⟩).run ih t V (xV d)=(match ops[i]? with
   | some o=>ig P G ih false ops n o t V (fun t' V'=>bif dc P G ops t' V' rc then jF P G ih ops n d l t' V' else .err 86)
   | none=>.err 87)
  rw[eU,aT_];cases ops[i]? with
  | none=>rfl
  | some o=>
   dsimp only;cases rc with
   | nil=>
    show(LP P G false ops n o).run ih t V (fun t V=>(w5 P G ops n l).run ih t V (xV d))=_;rw[Ff];congr 1;funext t' V';exact w6 P G ops n ih d l t' V'
   | cons q rc=>
    show(LP P G false ops n o).run ih t V (zI P G ops (q::rc) (fun t V=>(w5 P G ops n l).run ih t V (xV d)))=_;rw[Ff];congr 1;funext t' V';unfold zI;dsimp only;rw[w6 P G ops n ih d l t' V']
structure Rr where
 run:jx->PT J->List DE->Option Pos->N->CR
def RC (P:Program) (G:Cx) (c:Code) (n:Nat):Rr:=
 match c with
 | .skip | .label _=>⟨fun _ t d _ V=>.ok .normal t d V⟩
 | .region _ ops draw=>bif draw then(bif te P ops then⟨fun ih t d _ V=>(w5 P G ops n<|km P ops).run ih t V (xV d)⟩ else⟨fun _ _ _ _ _=>.err 88⟩)
   else(bif lD ops.toList then⟨fun _ _ _ _ _=>.err 96⟩ else⟨fun ih t d _ V=>BU d ((Nb P G ops n ops.toList).run ih t V<|xV d)⟩)
 | .seq a b=>⟨fun ih t d ro V=>uS (ih a t n d ro V) (fun t d V=>ih b t n d ro V)⟩
 | .cond x a b=>⟨fun ih t d ro V=>yw ((mW G x).run t) (ih a t n d ro V) (ih b t n d ro V)⟩
 | .block id b=>⟨fun ih t d ro V=>q9 id (ih b t n d ro V)⟩
 | .scope b=>⟨fun ih t d ro V=>E8 (ih b t n d ro V)⟩
 | .loop b=>⟨fun ih t d ro V=>uS (ih b t n d ro V) (fun t d V=>ih (.loop b) t n d ro V)⟩
 | .exit id=>⟨fun _ t d _ V=>.ok (.exit id) t d V⟩
 | .ret=>⟨fun _ t d _ V=>.ok .ret t d V⟩
 | .rangeFunc g ps assign body=>⟨fun ih t d ro V=>tK P G ih g ps assign body t n d ro V⟩
 | _=>⟨fun _ _ _ _ _=>.err 99⟩
theorem Ow (P:Program) (G:Cx) (c:Code) (n:Nat) (ih:jx) (t:PT J) (d:List DE) (ro:Option Pos) (V:N):(RC P G c n).run ih t d ro V=GJ P G ih c t n d ro V:=by
 cases c with
 | region id ops draw=>
  cases draw with
  | false=>
   show(bif lD ops.toList then(⟨fun _ _ _ _ _=>.err 96⟩:Rr) else⟨fun ih t d _ V=>BU d ((Nb P G ops n ops.toList).run ih t V<|xV d)⟩).run ih t d ro V=bif lD ops.toList then .err 96 else BU d (se P G ih ops n d ops.toList t V)
   grind [Gy]
  | true=>
   show(bif te P ops then(⟨fun ih t d _ V=>(w5 P G ops n<|km P ops).run ih t V (xV d)⟩:Rr) else⟨fun _ _ _ _ _=>.err 88⟩).run ih t d ro V=uh P G ih ops n d t V
   grind [uh,w6]
 | cond x a b=>show yw ((mW G x).run t) _ _=_;rw[iG];rfl
 | _=>rfl
def Pe (P:Program) (G:Cx) (fuel:Nat):jx:=Nat.rec (motive:=fun _=>jx) (fun _ _ _ _ _ _=>.err 100) (fun _ ih c t n d ro V=>(RC P G c n).run ih t d ro V) fuel
theorem GB (P:Program) (G:Cx):∀(fuel:Nat),Pe P G fuel=ea P G fuel
 | 0=>rfl
 | k+1=>by
  funext c t n d ro V;show(RC P G c n).run (Pe P G k) t d ro V=GJ P G (ea P G k) c t n d ro V;rw[Ow,GB P G k]
def BR (P:Program) (G:Cx) (fuel:Nat) (f:Nat) (args:List J) (V:N):KR:=BC P G (Pe P G fuel) f args V
theorem Jn (P:Program) (G:Cx) (fuel:Nat) (f:Nat) (args:List J) (V:N):BR P G fuel f args V=v7 P G fuel f args V:=by
 unfold BR v7;rw[BD,GB]
end Go.Ev
namespace Go.Ev
variable [Env]
open Go.ChangeShapes Go.WideShapes Go.ChangeAt Go.RowKit
theorem vD {α β:Type} {f:α->Option β}:∀{l:List α} {r:List β},cM f l=some r->r.length=l.length/\∀(i:Nat) (v:β),r[i]? =some v->∃y,l[i]? =some y/\f y=some v
 | [],r,h=>by
  rw[gx] at h;simp_all
 | x::l,r,h=>by
  obtain⟨y,r',h1,b,rfl⟩:=fV h;obtain⟨k1,k2⟩:=vD b
  grind
theorem sS.of {w:World} {g:Nat} {cells:List J} {vs:List Value} {e:TypeId} {fr:Nat×Nat} (hb:w.heap[g]? =some (.cells vs.toArray e fr)) (hv:cM nw vs=some cells):sS w (g,cells):=by
 obtain⟨b,k2⟩:=vD hv;refine⟨vs.toArray,e,fr,hb,by simp[b],fun i v hi=>?_⟩
 grind [ny]
def VG (gl:Nat) (l:List (Nat×List J)) (E:Nat->TypeId):N:=⟨gl,JK l E⟩
theorem VG_get {gl:Nat} {l:List (Nat×List J)} {E:Nat->TypeId} {b:Nat} {o:cu} (h:(VG gl l E).m.get b=some o):∃x∈l,x.1=b/\o= .row x.2 (E x.1) true:=EE E h
def AR (w:World) (b:Nat):Nat:=
 match w.heap[b]? with
 | some (.cells cs _ _)=>cs.size
 | _=>0
def elemAt (w:World) (b:Nat):TypeId:=
 match w.heap[b]? with
 | some (.cells _ e _)=>e
 | _=>0
def ρG (w:World) (gl:Nat):Ren:=fun b=>if b<gl then some ⟨b,0,AR w b⟩ else none
theorem OG_some {w:World} {gl:Nat} {b:Nat} {l:Loc} (h:ρG w gl b=some l):b<gl/\l=⟨b,0,AR w b⟩:=by
 unfold ρG at h
 simp_all
def Fv (gl:Nat) (l:List (Nat×List J)):Bool:=l.all fun x=>Nat.blt x.1 gl && fj x.2
theorem RR {w:World} {gl:Nat} {l:List (Nat×List J)} (E:G9 w) (ab:gl<=w.heap.size) (u:Fv gl l=true) (hl:∀x∈l,sS w x):Inv (ρG w gl) (VG gl l<|elemAt w) w:=by
 have aa:∀x∈l,x.1<gl/\fj x.2=true:=fun x hx=>by
  have:=aE_.1 u x hx
  simp_all
 refine⟨⟨fun b hb=>?_,fun b l' h=>?_,fun b o l' h1 d=>?_,fun b b' o o' l1 l2 h1 d h3 h4 he hne=>?_⟩,E.1,E.2,fun r _ ⟨b,o,l',h1,d,_,_⟩=>by
  obtain⟨x,_,_,rfl⟩:=VG_get h1;cases d⟩
 ·have A:¬b<gl:=Nat.not_lt.2 hb;refine⟨by unfold ρG;rw[if_neg A],?_⟩;cases h:(VG gl l<|elemAt w).m.get b with
  | none=>rfl
  | some o=>
   obtain⟨x,hx,rfl,_⟩:=VG_get h
   grind
 ·obtain⟨hb,rfl⟩:=OG_some h
  grind
 ·obtain⟨x,hx,rfl,rfl⟩:=VG_get h1;obtain⟨hb,rfl⟩:=OG_some d;obtain⟨c,e,fr,C,k2,k3⟩:=hl x hx;have F:AR w x.1=c.size:=by unfold AR;rw[C]
  have he:elemAt w x.1=e:=by unfold elemAt;rw[C]
  refine⟨_,C,c,fr,by rw[he],?_,?_,fun i v hv=>?_,fun h=>by cases h⟩
  ·simp[F]
  ·simp_all
  grind [mT,j0]
 obtain⟨x,hx,rfl,rfl⟩:=VG_get h1;obtain⟨y,hy,rfl,rfl⟩:=VG_get d;exact⟨Z,Z⟩
theorem hJ.MG {w w':World} {gl:Nat} {l:List (Nat×List J)} {E:Nat->TypeId} {O ρ':Ren} {V':N} (h:eF O (VG gl l E) w ρ' V' w'):hJ w w':=
 ⟨h.os,h.out,h.tape,h.size,fun r d=>h.frame r d fun⟨b,o,l',h1,m,_⟩=>by
  obtain⟨x,_,_,rfl⟩:=VG_get h1;cases m⟩
def pg:KR->Bool
 | .ret (.bool true) _=>true
 | _=>false
theorem AN {r:KR} (h:pg r=true):∃V,r= .ret (.bool true) V:=by
 unfold pg at h
 grind
theorem DZ {P:Program} {G:Cx} (hm:P.follows .mixedOrders=true) (m:xP P G) {fuel f:Nat} {w:World} (u:G9 w) (b:G.gl<=w.heap.size) (d:Fv G.gl G.laid=true) (hl:∀x∈G.laid,sS w x)
  (h:∀E,pg (BR P G fuel f [] (VG G.gl G.laid E))=true):Calls P f #[] w fun e w'=>e= .returned (.bool true)/\hJ w w':=by
 have h:=h (elemAt w);rw[Jn] at h;obtain⟨V,h⟩:=AN h;refine oE hm m h (RR u b d hl) (fun g A=>⟨_,by show ρG w G.gl g=_;unfold ρG;rw[if_pos A]⟩) cT.nil fun ρ' w' x _ st hv=>?_
 grind [VR,hJ.MG]
theorem ED {P:Program} {G:Cx} (hm:P.follows .mixedOrders=true) (m:xP P G) {fuel f:Nat} (b:Fv G.gl G.laid=true) (h:∀E,pg (BR P G fuel f [] (VG G.gl G.laid E))=true):FA P G.gl G.laid f [] (.bool true):=fun w xs d u hl hx=>by
 have:xs= #[]:=by
  have:=hx.dY
  simp_all
 subst this;exact(DZ hm m (w:=w) u d b hl h).mono fun e w' ⟨h1,A⟩=>⟨_,h1,by simp only[VR],A⟩
end Go.Ev
namespace Go.Ev
variable [Env]
section
variable {P:Program} {G:Cx}
def Ev (P:Program) (G:Cx) (c:Code) (n:Nat) (t:PT J) (V:N) (Q:Ex->PT J->N->Prop):Prop:=
 ∃(K:Nat) (e:Ex) (t':PT J) (V':N),(∀d ro k,K<=k->ea P G k c t n d ro V= .ok e t' d V')/\Q e t' V'
def aW (P:Program) (G:Cx) (f:Nat) (args:List J) (V:N) (R:J->N->Prop):Prop:=
 ∃(K:Nat) (v:J) (V':N),(∀k,K<=k->kb P G (ea P G k) f args V= .ret v V')/\R v V'
def bP (P:Program) (G:Cx) (ops:Array Oper) (n:Nat) (l:List Oper) (t:PT J) (V:N) (Q:Ex->PT J->N->Prop):Prop:=
 ∃(K:Nat) (e:Ex) (t':PT J) (V':N),(∀d k,K<=k->se P G (ea P G k) ops n d l t V= .ok e t' d V')/\Q e t' V'
def cE (P:Program) (G:Cx) (ops:Array Oper) (n:Nat) (l:List (Nat×List Nat)) (t:PT J) (V:N) (Q:Ex->PT J->N->Prop):Prop:=
 ∃(K:Nat) (e:Ex) (t':PT J) (V':N),(∀d k,K<=k->jF P G (ea P G k) ops n d l t V= .ok e t' d V')/\Q e t' V'
theorem Ev.mono {c:Code} {n:Nat} {t:PT J} {V:N} {Q Q':Ex->PT J->N->Prop} (h:Ev P G c n t V Q) (hq:∀e t' V',Q e t' V'->Q' e t' V'):Ev P G c n t V Q':=
 let ⟨K,e,t',V',h1,b⟩:=h;⟨K,e,t',V',h1,hq _ _ _ b⟩
theorem aW.mono {f:Nat} {args:List J} {V:N} {R R':J->N->Prop} (h:aW P G f args V R) (hq:∀v V',R v V'->R' v V'):aW P G f args V R':=
 let ⟨K,v,V',h1,b⟩:=h;⟨K,v,V',h1,hq _ _ b⟩
section
variable {n:Nat} {t:PT J} {V:N} {Q:Ex->PT J->N->Prop}
theorem aG (h:Q .normal t V):Ev P G .skip n t V Q:=⟨1,.normal,t,V,fun d ro k hk=>by obtain⟨j,rfl⟩:∃j,k=j+1:=⟨k-1,by omega⟩;rfl,h⟩
theorem Jj {l:Nat} (h:Q .normal t V):Ev P G (.label l) n t V Q:=⟨1,.normal,t,V,fun d ro k hk=>by obtain⟨j,rfl⟩:∃j,k=j+1:=⟨k-1,by omega⟩;rfl,h⟩
theorem ba {id:Nat} (h:Q (.exit id) t V):Ev P G (.exit id) n t V Q:=⟨1,_,t,V,fun d ro k hk=>by obtain⟨j,rfl⟩:∃j,k=j+1:=⟨k-1,by omega⟩;rfl,h⟩
theorem aF (h:Q .ret t V):Ev P G .ret n t V Q:=⟨1,_,t,V,fun d ro k hk=>by obtain⟨j,rfl⟩:∃j,k=j+1:=⟨k-1,by omega⟩;rfl,h⟩
def ew (P:Program) (G:Cx) (n:Nat) (b:Code) (Q:Ex->PT J->N->Prop) (e:Ex) (t:PT J) (V:N):Prop:=
 match e with
 | .normal=>Ev P G b n t V Q
 | e=>Q e t V
theorem H {a b:Code} (h:Ev P G a n t V (ew P G n b Q)):Ev P G (.seq a b) n t V Q:=by
 obtain⟨K,e,t',V',h1,m⟩:=h
 have step:∀d ro k,K<=k->ea P G (k+1) (.seq a b) t n d ro V=uS (.ok e t' d V') (fun t d V=>ea P G k b t n d ro V):=fun d ro k hk=>by
  show uS (ea P G k a t n d ro V) (fun t d V=>ea P G k b t n d ro V)=_;rw[h1 d ro k hk]
 cases e with
 | normal=>
  obtain⟨u,e2,A,C,E,h4⟩:=m;refine⟨max K u+1,e2,A,C,fun d ro k hk=>?_,h4⟩;obtain⟨j,rfl⟩:∃j,k=j+1:=⟨k-1,by omega⟩;rw[step d ro j oM];exact E d ro j oM
 | _=>
  refine⟨K+1,_,t',V',fun d ro k hk=>?_,m⟩;obtain⟨j,rfl⟩:∃j,k=j+1:=⟨k-1,by omega⟩;rw[step d ro j oM];rfl
theorem Ae {x:Operand} {a b:Code} {c:Bool} (hc:bn G t x=some (.bool c)) (h:Ev P G (if c then a else b) n t V Q):Ev P G (.cond x a b) n t V Q:=by
 obtain⟨K,e,t',V',h1,m⟩:=h;refine⟨K+1,e,t',V',fun d ro k hk=>?_,m⟩;obtain⟨j,rfl⟩:∃j,k=j+1:=⟨k-1,by omega⟩;show yw (bn G t x) (ea P G j a t n d ro V) (ea P G j b t n d ro V)=_;rw[hc];have:=h1 d ro j oM;cases c<;>exact this
def jI (id:Nat) (Q:Ex->PT J->N->Prop) (e:Ex) (t:PT J) (V:N):Prop:=
 match e with
 | .exit j=>if j=id then Q .normal t V else Q (.exit j) t V
 | e=>Q e t V
theorem aI {id:Nat} {b:Code} (h:Ev P G b n t V (jI id Q)):Ev P G (.block id b) n t V Q:=by
 obtain⟨K,e,t',V',h1,m⟩:=h
 have step:∀d ro k,K<=k->ea P G (k+1) (.block id b) t n d ro V=q9 id (.ok e t' d V'):=fun d ro k hk=>by
  show q9 id (ea P G k b t n d ro V)=_;rw[h1 d ro k hk]
 cases e with
 | exit q=>
  by_cases hq:q=id
  ·subst hq;refine⟨K+1,.normal,t',V',fun d ro k hk=>?_,by simpa [jI] using m⟩;obtain⟨j,rfl⟩:∃j,k=j+1:=⟨k-1,by omega⟩;rw[step d ro j oM];show(bif Nat.beq q q then _ else _)=_
   simp_all
  refine⟨K+1,.exit q,t',V',fun d ro k hk=>?_,by simpa [jI,hq] using m⟩;obtain⟨j,rfl⟩:∃j,k=j+1:=⟨k-1,by omega⟩;rw[step d ro j oM];show(bif Nat.beq q id then _ else _)=_
  grind [nB]
 | _=>
  refine⟨K+1,_,t',V',fun d ro k hk=>?_,m⟩;obtain⟨j,rfl⟩:∃j,k=j+1:=⟨k-1,by omega⟩;rw[step d ro j oM];rfl
theorem Mg {b:Code} (I:Nat->PT J->N->Prop) (step:∀j t V,I j t V->Ev P G b n t V (fun e t' V'=>match e with | .normal=>∃i,i<j/\I i t' V' | e=>Q e t' V')):
  ∀(j:Nat) (t:PT J) (V:N),I j t V->Ev P G (.loop b) n t V Q:=by
 intro j;induction j using Nat.strongRecOn with
 | _ j ih=>
  intro t V A;obtain⟨K,e,t',V',h1,u⟩:=step j t V A
  have st:∀d ro k,K<=k->ea P G (k+1) (.loop b) t n d ro V=uS (.ok e t' d V') (fun t d V=>ea P G k (.loop b) t n d ro V):=fun d ro k hk=>by
   show uS (ea P G k b t n d ro V) (fun t d V=>ea P G k (.loop b) t n d ro V)=_;rw[h1 d ro k hk]
  cases e with
  | normal=>
   obtain⟨i,hi,m⟩:=u;obtain⟨C,e2,E,F,L,h4⟩:=ih i hi t' V' m;refine⟨max K C+1,e2,E,F,fun d ro k hk=>?_,h4⟩;obtain⟨q,rfl⟩:∃q,k=q+1:=⟨k-1,by omega⟩;rw[st d ro q oM];exact L d ro q oM
  | _=>
   refine⟨K+1,_,t',V',fun d ro k hk=>?_,u⟩;obtain⟨q,rfl⟩:∃q,k=q+1:=⟨k-1,by omega⟩;rw[st d ro q oM];rfl
theorem ah {id:Nat} {ops:Array Oper} (hd:lD ops.toList=false) (h:bP P G ops n ops.toList t V Q):Ev P G (.region id ops false) n t V Q:=by
 obtain⟨K,e,t',V',h1,b⟩:=h;refine⟨K+1,e,t',V',fun d ro k hk=>?_,b⟩;obtain⟨j,rfl⟩:∃j,k=j+1:=⟨k-1,by omega⟩;show(bif lD ops.toList then .err 96 else BU d (se P G (ea P G j) ops n d ops.toList t V))=_;rw[hd,h1 d j oM];cases e<;>rfl
theorem vZ {id:Nat} {ops:Array Oper} (hf:te P ops=true) (h:cE P G ops n (km P ops) t V Q):Ev P G (.region id ops true) n t V Q:=by
 obtain⟨K,e,t',V',h1,b⟩:=h;refine⟨K+1,e,t',V',fun d ro k hk=>?_,b⟩;obtain⟨j,rfl⟩:∃j,k=j+1:=⟨k-1,by omega⟩;show uh P G (ea P G j) ops n d t V=_;unfold uh
 simp_all
theorem af {ops:Array Oper} (h:Q .normal t V):bP P G ops n [] t V Q:=⟨0,.normal,t,V,fun _ _ _=>Z,h⟩
theorem Y {ops:Array Oper} {o:Oper} {l:List Oper} {v:J} {t':PT J} {V':N} (hw:bF ops t o=some true) (hv:dM P G (bn G t) V o.op= .val v V') (hp:dA t n o.dst v=some t') (h:bP P G ops n l t' V' Q):bP P G ops n (o::l) t V Q:=by
 obtain⟨K,e,b,m,h1,u⟩:=h;refine⟨K,e,b,m,fun d k hk=>?_,u⟩;show ig P G (ea P G k) true ops n o t V (se P G (ea P G k) ops n d l)=_
 grind [ig,kA]
theorem lu {ops:Array Oper} {o:Oper} {l:List Oper} {t':PT J} {V':N} (hw:bF ops t o=some true) (hv:dM P G (bn G t) V o.op= .skip V') (hp:dA t n o.dst unit=some t') (h:bP P G ops n l t' V' Q):bP P G ops n (o::l) t V Q:=by
 obtain⟨K,e,b,m,h1,u⟩:=h;refine⟨K,e,b,m,fun d k hk=>?_,u⟩;show ig P G (ea P G k) true ops n o t V (se P G (ea P G k) ops n d l)=_
 grind [ig,kA]
theorem ae {ops:Array Oper} {o:Oper} {l:List Oper} {t':PT J} (hw:bF ops t o=some false) (hp:dA t n o.dst unit=some t') (h:bP P G ops n l t' V Q):bP P G ops n (o::l) t V Q:=by
 obtain⟨K,e,b,m,h1,u⟩:=h;refine⟨K,e,b,m,fun d k hk=>?_,u⟩;show ig P G (ea P G k) true ops n o t V (se P G (ea P G k) ops n d l)=_;unfold ig
 simp_all
theorem En {ops:Array Oper} {o:Oper} {l:List Oper} {f:Nat} {args:List J} {b:N} (hw:bF ops t o=some true) (hv:dM P G (bn G t) V o.op= .enter f args b)
  (h:aW P G f args b fun v V'=>∃t',dA t n o.dst v=some t'/\bP P G ops n l t' V' Q):bP P G ops n (o::l) t V Q:=by
 obtain⟨K,v,V',h1,t',hp,m,e,u,A,h3,h4⟩:=h;refine⟨max K m,e,u,A,fun d k hk=>?_,h4⟩;show ig P G (ea P G k) true ops n o t V (se P G (ea P G k) ops n d l)=_
 grind [ig,kA]
theorem a8 {ops:Array Oper} (h:Q .normal t V):cE P G ops n [] t V Q:=⟨0,.normal,t,V,fun _ _ _=>Z,h⟩
theorem aj {ops:Array Oper} {i:Nat} {o:Oper} {l:List (Nat×List Nat)} {v:J} {t':PT J} {V':N} (hi:ops[i]? =some o) (hw:bF ops t o=some true) (hv:dM P G (bn G t) V o.op= .val v V') (hp:dA t n o.dst v=some t') (h:cE P G ops n l t' V' Q):cE P G ops n ((i,[])::l) t V Q:=by
 obtain⟨K,e,b,m,h1,u⟩:=h;refine⟨K,e,b,m,fun d k hk=>?_,u⟩
 show(match ops[i]? with
  | some o=>ig P G (ea P G k) false ops n o t V (fun t' V'=>bif dc P G ops t' V' [] then jF P G (ea P G k) ops n d l t' V' else .err 86)
  | none=>.err 87)=_
 rw[hi];unfold ig;dsimp only;rw[hw];dsimp only;rw[hv];dsimp only[kA];rw[hp];exact h1 d k hk
theorem aB {ops:Array Oper} {i:Nat} {o:Oper} {l:List (Nat×List Nat)} {t':PT J} (hi:ops[i]? =some o) (hw:bF ops t o=some false) (hp:dA t n o.dst unit=some t') (h:cE P G ops n l t' V Q):cE P G ops n ((i,[])::l) t V Q:=by
 obtain⟨K,e,b,m,h1,u⟩:=h;refine⟨K,e,b,m,fun d k hk=>?_,u⟩
 show(match ops[i]? with
  | some o=>ig P G (ea P G k) false ops n o t V (fun t' V'=>bif dc P G ops t' V' [] then jF P G (ea P G k) ops n d l t' V' else .err 86)
  | none=>.err 87)=_
 rw[hi];unfold ig;dsimp only;rw[hw];dsimp only;rw[hp];exact h1 d k hk
theorem BQ {ops:Array Oper} {i:Nat} {o:Oper} {rc:List Nat} {l:List (Nat×List Nat)} {f:Nat} {args:List J} {b:N} (hi:ops[i]? =some o) (hw:bF ops t o=some true) (hv:dM P G (bn G t) V o.op= .enter f args b)
  (h:aW P G f args b fun v V'=>∃t',dA t n o.dst v=some t'/\dc P G ops t' V' rc=true/\cE P G ops n l t' V' Q):cE P G ops n ((i,rc)::l) t V Q:=by
 obtain⟨K,v,V',h1,t',hp,hs,m,e,u,A,h3,h4⟩:=h;refine⟨max K m,e,u,A,fun d k hk=>?_,h4⟩
 show(match ops[i]? with
  | some o=>ig P G (ea P G k) false ops n o t V (fun t' V'=>bif dc P G ops t' V' rc then jF P G (ea P G k) ops n d l t' V' else .err 86)
  | none=>.err 87)=_
 grind [ig,kA]
end
theorem FQ {f:Nat} {fn:Func} {c:Code} {args:List J} {V:N} {R:J->N->Prop} {t:PT J} (d:G.x6 f args V=none) (m:G.Ld f args=none) (b:G.stop f args V=none) (u:G.fk f=false)
  (hf:P.funcs[f]? =some fn) (hb:fn.body=some c) (A:qA fn.ntmps args=some t)
  (h:Ev P G c fn.ntmps t V fun e t' V'=>(e= .normal∨e= .ret)/\∃v,dU P fn t' V'=some v/\R v V'):aW P G f args V R:=by
 obtain⟨K,e,t',V',h1,he,v,h2,C⟩:=h;refine⟨K,v,V',fun k hk=>?_,C⟩;unfold kb;rw[d];dsimp only;rw[m];dsimp only;rw[b];dsimp only;rw[u];simp only[cond_false];unfold lV;rw[hf];dsimp only;rw[hb,A];dsimp only;rw[h1 [] none k hk];rcases he with rfl | rfl<;>
 ·dsimp only;unfold xW;rw[show tw P G (ea P G k) [] .ret V'=some (.ret,V') from Z]
  simp_all
theorem Jh {f:Nat} {args:List J} {V:N} {R:J->N->Prop} {v:J} (aa:G.x6 f args V=none) (ab:G.Ld f args=some v) (h1:fj args=true) (h2:qJ v=true) (h3:tv G.gl V G.laid=true) (h:R v V):aW P G f args V R:=by
 refine⟨0,v,V,fun k _=>?_,h⟩
 grind [kb]
end
def pz (P:Program):List Field->Nat->Option Nat
  | [],off=>some off
  | f::r,off=>if f.offset=off then pz P r (off+P.cellsOf f.type) else none
def dq {H_:Type} (P:Program) (V:N):Nat->TypeId->DataW H_->List J->Prop
  | 0,_,_,_=>False
  | fuel+1,t,d,vs=>
    match P.underlying t,d with
    | some .bool,.lit (.bool b)=>vs= [.bool b]
    | some (.int k),.lit (.int k' n)=>k'=k/\(Lit.int k n).wf=true/\vs= [.int k n]
    | some .string,.lit (.string s)=>s.length<=maxLen/\vs= [.str<|s.map UInt8.toNat]
    | some (.slice _),.nil=>vs= [.au]
    | some (.slice e),.slice elems spare=>1<=P.cellsOf e->∃(b:Nat) (c:nL) (cells:List J) (e':Nat),vs= [.slice b 0 elems.length c]/\elems.length<=maxLen/\V.m.get b=some (.row cells e' true)/\
        (c= .known (elems.length+spare.length)∨c= .upto (P.cellsOf e))/\cells.length=elems.length*P.cellsOf e/\
        ∀(i:Nat) (x:DataW H_),elems[i]? =some x->dq P V fuel e x ((cells.drop (i*P.cellsOf e)).take<|P.cellsOf e)
    | some (.struct fs),.agg parts=>pz P fs.toList 0=some (P.cellsOf t)->parts.length=fs.size/\vs.length=P.cellsOf t/\
        ∀(i:Nat) (f:Field) (x:DataW H_),fs[i]? =some f->parts[i]? =some x->dq P V fuel f.type x ((vs.drop f.offset).take<|P.cellsOf f.type)
    | some (.array n e),.agg parts=>P.cellsOf t=n*P.cellsOf e->parts.length=n/\vs.length=P.cellsOf t/\
        ∀(i:Nat) (x:DataW H_),parts[i]? =some x->dq P V fuel e x ((vs.drop (i*P.cellsOf e)).take<|P.cellsOf e)
    | _,_=>True
theorem dq.mono {H_:Type} {P:Program} {V V':N} (he:∀(b:Pos) (o:cu),V.m.get b=some o->V'.m.get b=some o):∀(fuel:Nat) (t:TypeId) (d:DataW H_) (vs:List J),dq P V fuel t d vs->dq P V' fuel t d vs
  | 0,_,_,_,h=>h
  | fuel+1,t,d,vs,h=>by
    unfold dq at h⊢;split at h
    · exact h
    · exact h
    · exact h
    · exact h
    · intro h1
      obtain⟨b,c,cells,e',u,A,C,E,F,G⟩:=h h1;exact⟨b,c,cells,e',u,A,he _ _ C,E,F,fun i x hx=>dq.mono he fuel _ _ _ (G i x hx)⟩
    · intro h1
      obtain⟨u,A,C⟩:=h h1;exact⟨u,A,fun i f x hf hx=>dq.mono he fuel _ _ _ (C i f x hf hx)⟩
    · intro h1
      obtain⟨u,A,C⟩:=h h1;exact⟨u,A,fun i x hx=>dq.mono he fuel _ _ _ (C i x hx)⟩
    · trivial
theorem cT.flatten {O:Ren}:∀{vss:List (List J)} {css:List (List Value)},vss.length=css.length->(∀(i:Nat) (vs:List J) (cs:List Value),vss[i]? =some vs->css[i]? =some cs->cT O vs cs)->cT O vss.flatten css.flatten
  | [],[],_,_=>cT.nil
  | [],_::_,h,_=>by simp at h
  | _::_,[],h,_=>by simp at h
  | vs::vss,cs::css,h,hh=>by
    rw[List.flatten_cons,List.flatten_cons];exact(hh 0 vs cs Z Z).append (cT.flatten (by simpa using h) fun i a b d hb=>hh (i+1) a b (by simpa using d) (by simpa using hb))
theorem mu {α:Type} {m:Nat}:∀{l:List (List α)} {i:Nat} {x:List α},(∀y∈l,y.length=m)->l[i]? =some x->(l.flatten.drop (i*m)).take m=x
  | [],i,x,_,h=>by simp at h
  | y::l,0,x,hm,h=>by
    simp at h;subst h;have hy:=hm y (by simp);simp[<-hy]
  | y::l,i+1,x,hm,h=>by
    have hy:=hm y (by simp);simp only[List.getElem?_cons_succ] at h;rw[List.flatten_cons,show(i+1)*m=y.length+i*m by rw[hy,Nat.succ_mul,Nat.add_comm],List.drop_append,List.drop_eq_nil_of_le oM,List.nil_append,Nat.add_sub_cancel_left];exact mu (fun z hz=>hm z (by simp[hz])) h
theorem oG {α:Type} {m:Nat}:∀{l:List (List α)},(∀y∈l,y.length=m)->l.flatten.length=l.length*m
  | [],_=>by simp
  | y::l,hm=>by
    rw[List.flatten_cons,lA_,hm y (by simp),oG fun z hz=>hm z (by simp[hz]),List.length_cons,Nat.succ_mul,Nat.add_comm]
theorem mH {α:Type} {P:Program}:∀{fs:List Field} {off fin:Nat} {cs:List α},pz P fs off=some fin->fin<=cs.length->(fs.map fun f=>(cs.drop f.offset).take (P.cellsOf f.type)).flatten=(cs.drop off).take (fin-off)/\off<=fin
  | [],off,fin,cs,h,_=>by simp only[pz,oJ_] at h;subst h;simp
  | f::fs,off,fin,cs,h,hl=>by
    simp only[pz] at h;split at h
    · rename_i b
      obtain⟨h1,h2⟩:=mH h hl;refine⟨?_,by omega⟩;rw[List.map_cons,List.flatten_cons,h1,b];rw[show fin-off=P.cellsOf f.type+(fin-(off+P.cellsOf f.type)) by omega,List.take_add,List.drop_drop]
    · cases h
theorem uI {α:Type} {P:Program}:∀{fs:List Field} {vss:List (List α)} {off fin:Nat},pz P fs off=some fin->(∀(i:Nat) (f:Field) (vs:List α),fs[i]? =some f->vss[i]? =some vs->vs.length=P.cellsOf f.type)->vss.length=fs.length->
    ∀{i:Nat} {f:Field} {vs:List α},fs[i]? =some f->vss[i]? =some vs->off<=f.offset/\(vss.flatten.drop (f.offset-off)).take (P.cellsOf f.type)=vs
  | [],vss,off,fin,h,hl,d,i,f,vs,hf,hv=>by simp at hf
  | g::fs,[],off,fin,h,hl,d,i,f,vs,hf,hv=>by simp at hv
  | g::fs,w::vss,off,fin,h,hl,d,i,f,vs,hf,hv=>by
    simp only[pz] at h;split at h
    · rename_i ho
      have hw:=hl 0 g w Z Z;cases i with
      | zero=>
        simp_all
      | succ i=>
        simp only[List.getElem?_cons_succ] at hf hv;obtain⟨h1,h2⟩:=uI h (fun i f vs a b=>hl (i+1) f vs (by simpa using a) (by simpa using b)) (by simpa using d) hf hv
        grind [List.drop_append,List.drop_eq_nil_of_le]
    · cases h
def jb (V:N):Prop:=∀b o,V.m.get b=some o->o.ro=true
structure Lay (O:Ren) (V:N) (ρ':Ren) (V':N):Prop where
  le:O.le ρ'
  get:∀(b:Pos) (o:cu),V.m.get b=some o->V'.m.get b=some o
theorem Lay.refl (O:Ren) (V:N):Lay O V O V:=⟨Ren.le_refl O,fun _ _ h=>h⟩
theorem Lay.trans {O ρ₁ ρ₂:Ren} {V d V2:N} (h:Lay O V ρ₁ d) (h':Lay ρ₁ d ρ₂ V2):Lay O V ρ₂ V2:=⟨Ren.le_trans h.le h'.le,fun b o hb=>h'.get b o (h.get b o hb)⟩
theorem Inv.NV {O:Ren} {V:N} {w:World} (hi:Inv O V w) (K:jb V) {l:Loc} {o:cu} {x:Obj} (hx:w.heap[l.da]? =some x) (L:fR O l o x) (aa:o.ro=true):
    Inv (O.with V.next l) (V.alloc o) w/\jb (V.alloc o)/\Lay O V (O.with V.next l) (V.alloc o):=by
  have hle:=hi.vv l;have G:l.da<w.heap.size:=(aS_.1 hx).1;have A:∀b l',b≠V.next->(O.with V.next l) b=some l'->O b=some l':=fun b l' hb h=>by rwa[Ren.dO O l hb] at h
  have u:∀b,b≠V.next->(V.alloc o).m.get b=V.m.get b:=fun b hb=>PT.db _ _ _ _ hb
  have C:(V.alloc o).m.get V.next=some o:=PT.de _ _ _
  have d:jb (V.alloc o):=fun b q hb=>by
    by_cases e:b=V.next
    · simp_all
    · rw[u b e] at hb;exact K b q hb
  refine⟨⟨⟨fun b hb=>?_,fun b l' hb=>?_,fun b o' l' hb E=>?_,fun b b' o₁ o₂ l₁ l₂ h1 F _ _ _ _=>⟨d b o₁ h1,d b' o₂ F⟩⟩,hi.nz.size,hi.nz.same,fun r _ ⟨b,o,l,h1,F,_,_⟩=>by rw[d b o h1] at F;cases F⟩,d,hle,fun b q hb=>?_⟩
  · have ab:V.next.num+1<=b.num:=by simpa [N.alloc,Pos.ie] using hb
    have hne:b≠V.next:=fun e=>by subst e;omega
    rw[Ren.dO O l hne,u b hne];exact hi.fresh b oM
  · by_cases hne:b=V.next
    · subst hne;rw[Ren.cy] at hb;cases hb;exact G
    · exact hi.da b l'<|A b l' hne hb
  · by_cases hne:b=V.next
    · subst hne
      rw[Ren.cy] at E;rw[C] at hb;cases hb;cases E;exact⟨x,hx,L.mono hle⟩
    · rw[u b hne] at hb
      obtain⟨y,hy,I⟩:=hi.obj b o' l' hb (A b l' hne E);exact⟨y,hy,I.mono hle⟩
  · have hne:b≠V.next:=fun e=>by subst e;rw[(hi.fresh _<|nR_ _).2] at hb;cases hb
    simp_all
section
variable {H_:Type} {enc:TypeId×Value->H_} {P:Program} {w:World}
def ID (enc:TypeId×Value->H_) (P:Program) (w:World) (fuel:Nat) (t:TypeId) (cs:List Value) (d:DataW H_):Prop:=
  ∀(O:Ren) (V:N),Inv O V w->jb V->∃(ρ':Ren) (V':N) (vs:List J),Inv ρ' V' w/\jb V'/\Lay O V ρ' V'/\dq P V' fuel t d vs/\cT ρ' vs cs
theorem P0 {O:Ren}:∀(cs:List Value),cT O (cs.map fun _=>J.any) cs
  | []=>cT.nil
  | _::cs=>cT.cons (by simp only[VR]) (P0 cs)
theorem pW {fuel:Nat} (ih:∀t cs d p,DataW.trod enc P w 0 (fun _=>true) true fuel t cs=some (d,p)->ID enc P w fuel t cs d):
    ∀(l:List (TypeId×List Value)) (xs:List (DataW H_×List MemPlace)),(l.mapM fun q=>DataW.trod enc P w 0 (fun _=>true) true fuel q.1 q.2)=some xs->∀(O:Ren) (V:N),Inv O V w->jb V->
      ∃(ρ':Ren) (V':N) (vss:List (List J)),Inv ρ' V' w/\jb V'/\Lay O V ρ' V'/\vss.length=l.length/\xs.length=l.length/\∀(i:Nat) (q:TypeId×List Value) (x:DataW H_×List MemPlace) (vs:List J),l[i]? =some q->xs[i]? =some x->vss[i]? =some vs->dq P V' fuel q.1 x.1 vs/\cT ρ' vs q.2
  | [],xs,h,O,V,hi,b=>by
    simp at h;subst h;exact⟨O,V,[],hi,b,Lay.refl _ _,Z,Z,fun i q x vs hq=>by simp at hq⟩
  | q::l,xs,h,O,V,hi,b=>by
    simp only[List.mapM_cons,Option.bind_eq_bind,Option.bind_eq_some_iff,Option.pure_def,oJ_] at h;obtain⟨⟨d,p⟩,h1,r,m,rfl⟩:=h;obtain⟨ρ₁,u,vs,A,C,l1,E,F⟩:=ih _ _ _ _ h1 O V hi b;obtain⟨ρ₂,G,vss,I,K,l2,L,M,hh⟩:=pW ih l r m ρ₁ u A C;refine⟨ρ₂,G,vs::vss,I,K,l1.trans l2,by simp[L],by simp[M],fun i q' x vs' hq hx hv=>?_⟩;cases i with
    | zero=>
      simp at hq hx hv;subst hq;subst hx;subst hv;exact⟨dq.mono l2.get _ _ _ _ E,cT.mono l2.le _ _ F⟩
    | succ i=>grind
theorem lG {α β:Type} {f:α->Option β}:∀{l:List α} {ys:List β},l.mapM f=some ys->ys.length=l.length/\∀(i:Nat) (y:β),ys[i]? =some y->∃x,l[i]? =some x/\f x=some y
  | [],ys,h=>by simp_all
  | x::l,ys,h=>by
    simp only[List.mapM_cons,Option.bind_eq_bind,Option.bind_eq_some_iff,Option.pure_def,oJ_] at h;obtain⟨y,h1,r,b,rfl⟩:=h;obtain⟨k1,k2⟩:=lG b
    grind
theorem tz {α β γ:Type} {f:α->Option β} {g:β->Option γ}:∀{l:List α} {xs:List γ},(l.mapM fun a=>(f a).bind g)=some xs->∃ys,l.mapM f=some ys/\ys.mapM g=some xs
  | [],xs,h=>by simp_all
  | a::l,xs,h=>by
    simp only[List.mapM_cons,Option.bind_eq_bind,Option.bind_eq_some_iff,Option.pure_def,oJ_] at h;obtain⟨x,⟨b,h1,h2⟩,r,d,rfl⟩:=h;obtain⟨ys,k1,k2⟩:=tz d
    simp_all
theorem mapM_map {α β γ:Type} {f:α->β} {g:β->Option γ}:∀(l:List α),(l.map f).mapM g=l.mapM fun a=>g (f a)
  | []=>rfl
  | a::l=>by simp only[List.map_cons,List.mapM_cons,mapM_map l]
theorem chunks_flatten {α:Type} {m:Nat} (L:List α):∀(n:Nat),((List.range n).map fun k=>(L.drop (k*m)).take m).flatten=L.take (n*m)
  | 0=>by simp
  | n+1=>by
    rw[List.range_succ,List.map_append,List.flatten_append,chunks_flatten L n];simp only[List.map_cons,List.map_nil,List.flatten_cons,List.flatten_nil,List.append_nil];rw[Nat.succ_mul,List.take_add]
theorem vK {a:Addr} {n:Nat} {cs:List Value} (h:w.cells? 0 a n=some cs) (hn:1<=n):∃(c:Array Value) (e:TypeId) (fr:Nat×Nat),w.heap[a.block]? =some (Obj.cells c e fr)/\a.spot=none/\a.off+n<=c.size/\cs=(c.toList.drop a.off).take n:=by
  unfold World.cells? at h;rw[if_pos<|Nat.zero_le _] at h;obtain⟨u,A⟩:=lG h;have u:cs.length=n:=by simpa using u
  have h0:∃(c:Array Value) (e:TypeId) (fr:Nat×Nat),w.heap[a.block]? =some (Obj.cells c e fr)/\a.spot=none:=by
    have b:0<cs.length:=by omega
    obtain⟨x,hx,hc⟩:=A 0 cs[0] (gC b)
    have:x=0:=by
      grind
    subst this;have C:a.add 0=a:=by simp[Addr.add]
    rw[C] at hc;unfold World.cell? at hc;split at hc
    · simp_all
    · cases hc
  obtain⟨c,e,fr,hh,E⟩:=h0
  have d:∀i y,cs[i]? =some y->c[a.off+i]? =some y:=fun i y hy=>by
    grind [Addr.add_eq,cell?_of_heap]
  have m:a.off+n<=c.size:=by
    have b:n-1<cs.length:=by omega
    have:=d (n-1) cs[n-1] (gC b)
    grind
  refine⟨c,e,fr,hh,E,m,?_⟩;apply List.ext_getElem?
  grind
theorem Da {P:Program}:∀{fs:List Field} {off fin:Nat},pz P fs off=some fin->∀f∈fs,f.offset+P.cellsOf f.type<=fin
  | [],off,fin,h,f,hf=>by cases hf
  | g::fs,off,fin,h,f,hf=>by
    simp only[pz] at h;split at h
    · rename_i ho
      rcases mQ_.1 hf with rfl | hf
      · have:=(mH (P:=P) (cs:=List.replicate fin ()) h (by simp)).2
        omega
      · exact Da h f hf
    · cases h
theorem JL (hw:∃(r:Nat) (c:Array Value) (e:TypeId) (fr:Nat×Nat),w.heap[r]? =some (Obj.cells c e fr)) {fuel:Nat} (ih:∀t cs d p,DataW.trod enc P w 0 (fun _=>true) true fuel t cs=some (d,p)->ID enc P w fuel t cs d) {t e:TypeId} {a:Addr} {len cap:Nat} {d:DataW H_} {p:List MemPlace} (hu:P.underlying t=some (.slice e))
    (h:(if 0<=a.block/\len<=cap/\cap<=maxLen then
        ((List.range len).mapM fun i=>(w.cells? 0 (a.add (i*P.cellsOf e))<|P.cellsOf e).bind (DataW.trod enc P w 0 (fun _=>true) true fuel e)).bind fun elems=>
          (if(fun _=>true) a.block=true then(List.range (cap-len)).mapM fun j=>(w.cells? 0 (a.add ((len+j)*P.cellsOf e))<|P.cellsOf e).bind (DataW.trod enc P w 0 (fun _=>true) true fuel e) else some []).map fun rest=>
            (DataW.slice (elems.map (·.1))<|rest.map (·.1),MemPlace.row a ((elems.length+rest.length)*P.cellsOf e)++(elems++rest).flatMap (·.2))
      else none)=some (d,p)) {O:Ren} {V:N} (hi:Inv O V w) (hr:jb V):
    ∃(ρ':Ren) (V':N) (vs:List J),Inv ρ' V' w/\jb V'/\Lay O V ρ' V'/\dq P V' (fuel+1) t d vs/\cT ρ' vs [Value.slice (some a) len cap]:=by
  split at h
  · rename_i hc
    obtain⟨_,aq,av⟩:=hc;obtain⟨elems,hE,h⟩:=Option.bind_eq_some_iff.1 h;obtain⟨rest,hR,h⟩:=oM_.1 h;rw[if_pos Z] at hR;have hd:d= .slice (elems.map (·.1)) (rest.map (·.1)):=by have:=congrArg Prod.fst h;simpa using this.symm
    subst hd;have m:elems.length=len:=by have:=(lG hE).1;simpa using this
    have aa:rest.length=cap-len:=by have:=(lG hR).1;simpa using this
    by_cases K:1<=P.cellsOf e
    · obtain⟨css,ac,hex⟩:=tz hE
      obtain⟨kcs,I⟩:=lG ac;have kcs:css.length=len:=by simpa using kcs
      have R:∀k,(a.add k).block=a.block/\(a.add k).off=a.off+k:=fun k=>by
        unfold Addr.add;split
        · rename_i h0;subst h0;exact⟨Z,Z⟩
        · exact⟨Z,Z⟩
      have C:a.add 0=a:=by simp[Addr.add]
      by_cases h0:len=0/\cap=0
      · obtain⟨rfl,rfl⟩:=h0
        obtain⟨r,c,e',fr,hh⟩:=hw;have E:fR O ⟨r,0,c.size⟩ (.row [] e' true) (.cells c e' fr):=⟨c,fr,Z,by simp,by simp,fun i v hv=>by simp at hv,fun h=>by cases h⟩;obtain⟨i1,r1,l1⟩:=hi.NV hr hh E Z;refine⟨_,_,[.slice V.next 0 0 (.upto<|P.cellsOf e)],i1,r1,l1,?_,cT.cons ?_ cT.nil⟩
        · unfold dq
          rw[hu];dsimp only;intro _;have ad:elems= []:=eN_ m;subst ad;exact⟨V.next,_,[],e',Z,by simp,PT.de _ _ _,.inr Z,by simp,fun i x hx=>by simp at hx⟩
        · simp only[VR]
          refine⟨_,Ren.cy _ _ _,.inr ?_⟩;simp
      · have hblk:∃(c:Array Value) (e':TypeId) (fr:Nat×Nat),w.heap[a.block]? =some (Obj.cells c e' fr)/\a.spot=none/\a.off<=c.size:=by
          have go:∀cs:List Value,w.cells? 0 a (P.cellsOf e)=some cs->∃(c:Array Value) (e':TypeId) (fr:Nat×Nat),w.heap[a.block]? =some (Obj.cells c e' fr)/\a.spot=none/\a.off<=c.size:=fun cs hk=>by
            obtain⟨c,e',fr,h1,h2,h3,_⟩:=vK hk K;exact⟨c,e',fr,h1,h2,by omega⟩
          by_cases hl:len=0
          · subst hl
            obtain⟨dss,ai,_⟩:=tz hR;obtain⟨k1,k2⟩:=lG ai;have k1:dss.length=cap-0:=by simpa using k1
            have b:0<dss.length:=by omega
            obtain⟨x,F,hx⟩:=k2 0 dss[0] (gC b);have:x=0:=by rw[List.getElem?_range oM] at F;exact(Option.some.inj F).symm
            subst this;rw[nA_,Nat.zero_mul,C] at hx;exact go _ hx
          · have b:0<css.length:=by omega
            obtain⟨x,F,hx⟩:=I 0 css[0] (gC b);have:x=0:=by rw[List.getElem?_range oM] at F;exact(Option.some.inj F).symm
            subst this;rw[Nat.zero_mul,C] at hx;exact go _ hx
        obtain⟨c,e',fr,hh,G,an⟩:=hblk
        have L:∀(i:Nat) (y:List Value),css[i]? =some y->a.off+(i+1)*P.cellsOf e<=c.size/\y=((c.toList.drop a.off).drop (i*P.cellsOf e)).take (P.cellsOf e):=fun i y hy=>by
          obtain⟨x,hx,al⟩:=I i y hy;have A:i<len:=by rw[<-kcs];exact(gA.1 hy).1
          have:x=i:=by rw[List.getElem?_range A] at hx;exact(Option.some.inj hx).symm
          subst this;obtain⟨c2,e2,ax,h1,h2,h3,h4⟩:=vK al K;obtain⟨q1,q3⟩:=R (x*P.cellsOf e);rw[q1,hh] at h1;cases h1;rw[q3] at h3 h4;exact⟨by rw[Nat.succ_mul];omega,by rw[h4,List.drop_drop]⟩
        have am:a.off+len*P.cellsOf e<=c.size:=by
          by_cases hl:len=0
          · subst hl;omega
          · have b:len-1<css.length:=by omega
            have:=(L (len-1) css[len-1]<|gC b).1;rwa[show len-1+1=len by omega] at this
        have T:∀(i:Nat) (y:List Value),css[i]? =some y->y.length=P.cellsOf e:=fun i y hy=>by
          obtain⟨k1,k2⟩:=L i y hy;rw[k2,lT_,lD_,lD_,Array.length_toList];rw[Nat.succ_mul] at k1;omega
        have M:css=(List.range len).map fun k=>((c.toList.drop a.off).drop (k*P.cellsOf e)).take (P.cellsOf e):=by
          apply List.ext_getElem?;intro i;rw[gM_]
          by_cases A:i<len
          · rw[List.getElem?_range A]
            have b:i<css.length:=by omega
            rw[gC b];exact congrArg some (L i css[i]<|gC b).2
          · rw[gN_ oM,gN_ (by simp;omega)];rfl
        obtain⟨ρ₁,V1,vss,i1,r1,l1,n1,n2,Q⟩:=pW ih (css.map fun cs=>(e,cs)) elems (by rw[mapM_map];exact hex) O V hi hr;have n1:vss.length=css.length:=by simpa using n1
        have hV:cT ρ₁ vss.flatten css.flatten:=cT.flatten n1 fun i vs cs hv U=>by
          have b:i<elems.length:=by rw[m,<-kcs];exact(gA.1 U).1
          exact(Q i (e,cs) elems[i] vs (by rw[gM_,U];rfl) (gC b) hv).2
        have W:∀vs∈vss,vs.length=P.cellsOf e:=fun vs hv=>by
          obtain⟨i,A,rfl⟩:=List.getElem_of_mem hv;have b:i<css.length:=by omega
          have u:i<elems.length:=by omega
          have:=(Q i (e,css[i]) elems[i] vss[i] (by rw[gM_,gC b];rfl) (gC u)<|gC A).2.length;rw[<-this];exact T i _<|gC b
        have X:vss.flatten.length=len*P.cellsOf e:=by rw[oG W,n1,kcs]
        rw[M,chunks_flatten] at hV
        have E:fR ρ₁ ⟨a.block,a.off,c.size-a.off⟩ (.row vss.flatten e' true) (.cells c e' fr):=by
          refine⟨c,fr,Z,by show c.size=a.off+(c.size-a.off);omega,by rw[X];show _<=c.size-a.off;omega,fun i v hv=>?_,fun h=>by cases h⟩;obtain⟨y,hy,ap⟩:=hV.get hv;rw[List.getElem?_take] at hy;split at hy
          · rw[List.getElem?_drop,aT_] at hy
            exact⟨y,hy,ap⟩
          · cases hy
        obtain⟨i2,r2,l2⟩:=i1.NV r1 hh E Z;refine⟨_,_,[.slice V1.next 0 len (.known cap)],i2,r2,l1.trans l2,?_,cT.cons ?_ cT.nil⟩
        · unfold dq
          rw[hu];dsimp only;intro _;refine⟨V1.next,_,vss.flatten,e',by rw[lM_,m],by rw[lM_,m];omega,PT.de _ _ _,.inl (by rw[lM_,lM_,m,aa];congr 1;omega),by rw[X,lM_,m],fun i x hx=>?_⟩;rw[gM_] at hx;cases hy:elems[i]? with
          | none=>rw[hy] at hx;cases hx
          | some y=>
            rw[hy] at hx;cases hx;have A:i<len:=by rw[<-m];exact(gA.1 hy).1
            have b:i<css.length:=by omega
            have u:i<vss.length:=by omega
            rw[mu W<|gC u];exact dq.mono l2.get _ _ _ _ (Q i (e,css[i]) y vss[i] (by rw[gM_,gC b];rfl) hy<|gC u).1
        · simp only[VR]
          refine⟨_,Ren.cy _ _ _,?_⟩;obtain⟨ab,ao,as⟩:=a;dsimp only at G⊢;subst G;rfl
    · refine⟨O,V,[.any],hi,hr,Lay.refl _ _,?_,cT.cons (by simp only[VR]) cT.nil⟩
      unfold dq;rw[hu];exact fun h'=>absurd h' K
  · cases h
theorem lay (hw:∃(r:Nat) (c:Array Value) (e:TypeId) (fr:Nat×Nat),w.heap[r]? =some (Obj.cells c e fr)):∀(fuel:Nat) (t:TypeId) (cs:List Value) (d:DataW H_) (p:List MemPlace),DataW.trod enc P w 0 (fun _=>true) true fuel t cs=some (d,p)->ID enc P w fuel t cs d
  | 0,t,cs,d,p,h=>by simp[DataW.trod] at h
  | fuel+1,t,cs,d,p,h=>by
    intro O V hi Q;have ih:=lay hw fuel
    have other:(∀vs:List J,dq P V (fuel+1) t d vs)->∃(ρ':Ren) (V':N) (vs:List J),Inv ρ' V' w/\jb V'/\Lay O V ρ' V'/\dq P V' (fuel+1) t d vs/\cT ρ' vs cs:=fun hd=>
      ⟨O,V,_,hi,Q,Lay.refl _ _,hd _,P0 cs⟩
    have one:∀{v:J} {x:Value},cs= [x]->(∀O:Ren,VR O v x)->dq P V (fuel+1) t d [v]->∃(ρ':Ren) (V':N) (vs:List J),Inv ρ' V' w/\jb V'/\Lay O V ρ' V'/\dq P V' (fuel+1) t d vs/\cT ρ' vs cs:=fun {v x} hc hv hd=>by
      subst hc;exact⟨O,V,[v],hi,Q,Lay.refl _ _,hd,cT.cons (hv O) cT.nil⟩
    cases hu:P.underlying t with
    | none=>exact other fun vs=>by unfold dq;rw[hu];trivial
    | some u=>
      unfold DataW.trod at h;rw[hu] at h;cases u with
      | bool=>
        split at h<;>first | (rename_i he;cases he;done) | skip
        all_goals first
          | (rename_i b he
             cases h;exact one (v:=.bool b) Z (fun O=>by simp only[VR]) (by unfold dq;rw[hu]))
          | cases h
      | int k=>
        split at h<;>first | (rename_i he;cases he;done) | skip
        all_goals first
          | (rename_i W R n he
             cases he;split at h
             · rename_i hk
               obtain⟨X,aa⟩:=hk;subst X;cases h;exact one (v:=.int R n) Z (fun O=>by simp only[VR]) (by unfold dq;rw[hu];exact⟨Z,aa,Z⟩)
             · cases h)
          | cases h
      | string=>
        split at h<;>first | (rename_i he;cases he;done) | skip
        all_goals first
          | (rename_i s he
             split at h
             · rename_i hk
               cases h;exact one (v:=.str<|s.data.toList.map UInt8.toNat) Z (fun O=>by simp only[VR];exact⟨s,Z,Z⟩) (by unfold dq;rw[hu];exact⟨by simpa using hk,Z⟩)
             · cases h)
          | cases h
      | struct fs=>
        dsimp only at h;split at h
        · rename_i hlen
          obtain⟨xs,K,hx⟩:=oM_.1 h;have hd:d= .agg (xs.map (·.1)):=by have:=congrArg Prod.fst hx;simpa using this.symm
          subst hd
          by_cases G:pz P fs.toList 0=some (P.cellsOf t)
          · obtain⟨ρ₁,T,vss,i1,r1,l1,F,I,hh⟩:=pW ih (fs.toList.map fun f=>(f.type,(cs.drop f.offset).take<|P.cellsOf f.type)) xs (by rw[mapM_map];exact K) O V hi Q
            have hflat:=(mH (cs:=cs) G oM).1;have hle:=Da G;have F:vss.length=fs.toList.length:=by simpa using F
            have I:xs.length=fs.toList.length:=by simpa using I
            have E:∀(i:Nat) (f:Field) (vs:List J),fs.toList[i]? =some f->vss[i]? =some vs->∃x,xs[i]? =some x/\dq P T fuel f.type x.1 vs/\cT ρ₁ vs ((cs.drop f.offset).take<|P.cellsOf f.type):=fun i f vs hf hv=>by
              have A:i<xs.length:=by rw[I];exact(gA.1 hf).1
              obtain⟨W,R⟩:=hh i (f.type,(cs.drop f.offset).take<|P.cellsOf f.type) xs[i] vs (by rw[gM_,hf];rfl) (gC A) hv;exact⟨xs[i],gC A,W,R⟩
            have L:∀(i:Nat) (f:Field) (vs:List J),fs.toList[i]? =some f->vss[i]? =some vs->vs.length=P.cellsOf f.type:=fun i f vs hf hv=>by
              obtain⟨x,_,_,k⟩:=E i f vs hf hv;have h1:=k.length;have h2:=hle f (gB_ hf);rw[lT_,lD_] at h1;omega
            have U:cT ρ₁ vss.flatten cs:=by
              have:=cT.flatten (O:=ρ₁) (vss:=vss) (css:=fs.toList.map fun f=>(cs.drop f.offset).take (P.cellsOf f.type)) (by simpa using F) (fun i vs c hv hc=>by
                rw[gM_] at hc;cases hf:fs.toList[i]? with
                | none=>rw[hf] at hc;cases hc
                | some f=>
                  rw[hf] at hc;cases hc;obtain⟨x,_,_,k⟩:=E i f vs hf hv;exact k)
              rw[hflat,List.drop_zero,Nat.sub_zero,<-hlen,List.take_length] at this;exact this
            refine⟨ρ₁,T,vss.flatten,i1,r1,l1,?_,U⟩;unfold dq;rw[hu];dsimp only;intro _;refine⟨by simpa using I,by rw[<-hlen];exact U.length.symm,fun i f x hf hx=>?_⟩;have M:fs.toList[i]? =some f:=by rw[aT_];exact hf
            have A:i<vss.length:=by rw[F];exact(gA.1 M).1
            obtain⟨_,hp⟩:=uI G L F M (gC A);obtain⟨y,hy,k,_⟩:=E i f vss[i] M (gC A);rw[gM_,hy] at hx;cases hx;rw[Nat.sub_zero] at hp;rw[hp];exact k
          · exact other fun vs=>by unfold dq;rw[hu];exact fun h'=>absurd h' G
        · cases h
      | array m e=>
        dsimp only at h;split at h
        · rename_i hlen
          obtain⟨xs,K,hx⟩:=oM_.1 h;have hd:d= .agg (xs.map (·.1)):=by have:=congrArg Prod.fst hx;simpa using this.symm
          subst hd
          by_cases G:P.cellsOf t=m*P.cellsOf e
          · obtain⟨ρ₁,T,vss,i1,r1,l1,F,I,hh⟩:=pW ih ((List.range m).map fun i=>(e,(cs.drop (i*P.cellsOf e)).take<|P.cellsOf e)) xs (by rw[mapM_map];exact K) O V hi Q
            have F:vss.length=m:=by simpa using F
            have I:xs.length=m:=by simpa using I
            have E:∀(i:Nat) (vs:List J),vss[i]? =some vs->∃x,xs[i]? =some x/\dq P T fuel e x.1 vs/\cT ρ₁ vs ((cs.drop (i*P.cellsOf e)).take<|P.cellsOf e):=fun i vs hv=>by
              have C:i<m:=by rw[<-F];exact(gA.1 hv).1
              have A:i<xs.length:=by omega
              obtain⟨W,R⟩:=hh i (e,(cs.drop (i*P.cellsOf e)).take<|P.cellsOf e) xs[i] vs (by rw[gM_,List.getElem?_range C];rfl) (gC A) hv;exact⟨xs[i],gC A,W,R⟩
            have L:∀vs∈vss,vs.length=P.cellsOf e:=fun vs hv=>by
              obtain⟨i,C,rfl⟩:=List.getElem_of_mem hv;obtain⟨x,_,_,k⟩:=E i _ (gC C);have h1:=k.length;rw[lT_,lD_,hlen,G] at h1;have:(i+1)*P.cellsOf e<=m*P.cellsOf e:=nM_ _ oM;rw[Nat.succ_mul] at this;omega
            have U:cT ρ₁ vss.flatten cs:=by
              have:=cT.flatten (O:=ρ₁) (vss:=vss) (css:=(List.range m).map fun i=>(cs.drop (i*P.cellsOf e)).take (P.cellsOf e)) (by simpa using F) (fun i vs c hv hc=>by
                obtain⟨x,_,_,k⟩:=E i vs hv;have C:i<m:=by rw[<-F];exact(gA.1 hv).1
                rw[gM_,List.getElem?_range C] at hc;cases hc;exact k)
              rw[chunks_flatten,<-G,<-hlen,List.take_length] at this;exact this
            refine⟨ρ₁,T,vss.flatten,i1,r1,l1,?_,U⟩;unfold dq;rw[hu];dsimp only;intro _;refine⟨by simpa using I,by rw[<-hlen];exact U.length.symm,fun i x hx=>?_⟩
            have C:i<vss.length:=by
              have:=(gA.1 hx).1;rw[lM_] at this;omega
            rw[mu L<|gC C];obtain⟨y,hy,k,_⟩:=E i vss[i] (gC C);rw[gM_,hy] at hx;cases hx;exact k
          · exact other fun vs=>by unfold dq;rw[hu];exact fun h'=>absurd h' G
        · cases h
      | slice e=>
        split at h<;>first | (rename_i he;cases he;done) | skip
        all_goals first
          | (rename_i he
             cases h;exact one (v:=.au) Z (fun O=>by simp only[VR]) (by unfold dq;rw[hu]))
          | (rename_i e' a len cap he
             cases he;exact JL hw ih hu h hi Q)
          | cases h
      | _=>exact other fun vs=>by unfold dq;rw[hu];trivial
end
section
variable {P:Program} {G:Cx} {ev:Operand->Option J} {V:N}
def Ext (V V':N):Prop:=V.next<=V'.next/\∀(b:Nat) (o:cu),b<V.next->V.m.get b=some o->V'.m.get b=some o
theorem Ext.refl (V:N):Ext V V:=⟨nR_ _,fun _ _ _ h=>h⟩
theorem Ext.trans {V d V2:N} (h:Ext V d) (h':Ext d V2):Ext V V2:=⟨Nat.le_trans h.1 h'.1,fun b o hb m=>h'.2 b o (Nat.lt_of_lt_of_le hb h.1) (h.2 b o hb m)⟩
theorem xZ (V:N) (o:cu):(V.alloc o).m.get V.next=some o:=PT.de _ _ _
theorem mw (V:N) (o:cu) {b:Nat} (h:b<V.next):(V.alloc o).m.get b=V.m.get b:=PT.db _ _ _ _ (Nat.ne_of_lt h)
theorem Ai (V:N) (b:Nat) (o:cu):(V.setObj b o).m.get b=some o:=PT.de _ _ _
theorem my (V:N) {b b':Nat} (o:cu) (h:b'≠b):(V.setObj b o).m.get b'=V.m.get b':=PT.db _ _ _ _ h
theorem Ext.alloc (V:N) (o:cu):Ext V (V.alloc o):=⟨Nat.le_succ _,fun b o' hb h=>by rw[mw V o hb];exact h⟩
theorem Ext.set {V d:N} (h:Ext V d) {b:Nat} (hb:V.next<=b) (o:cu):Ext V (d.setObj b o):=⟨h.1,fun c o' hc m=>by rw[my d o<|Nat.ne_of_lt<|Nat.lt_of_lt_of_le hc hb];exact h.2 c o' hc m⟩
theorem D {x:Operand} {v:J} (h:ev x=some v):dM P G ev V (.move x)= .val v V:=by
 show(match ev x with | some v=>HR.val v V | none=>_)=_;rw[h]
theorem ak {x:Operand} {v:J} (h:ev x=some v):dM P G ev V (.assign x)= .val v V:=by
 show(match ev x with | some v=>HR.val v V | none=>_)=_;rw[h]
theorem bD {op:Op} {v:J} (hk:kindOf P op= .pure) (h:du P ev op=some v):dM P G ev V op= .val v V:=by
 unfold dM;simp_all
theorem pE {op:Op} {v:J} (hk:kindOf P op= .read) (h:eY P ev V op=some v):dM P G ev V op= .val v V:=by
 unfold dM;simp_all
theorem qo {op:Op} {ob:cu} {mk:Mk} (hk:kindOf P op= .alloc) (h:eZ P ev op=some (ob,mk)):dM P G ev V op= .val (mk.of V.next) (V.alloc ob):=by
 unfold dM;simp_all
theorem iy {op:Op} {r:HR} (hk:kindOf P op= .kh) (h:fw P G.ov ev V op=r):dM P G ev V op=r:=by
 unfold dM;rw[hk];exact h
theorem aw {t:TypeId} {x:Operand} {b:Pos} {off:Nat} {cells:List J} {e:Nat} {ro:Bool} {v:J} (hx:ev x=some (.ptr b off)) (hb:V.m.get b=some (.row cells e ro)) (d:dN P t=some none) (hv:nth cells off=some v):dM P G ev V (.load t x)= .val v V:=by
 refine pE Z ?_;simp only[eY,hx,hb,d,hv]
theorem bp {t:TypeId} {x:Operand} {b:Pos} {off n:Nat} {cells:List J} {e:Nat} {ro:Bool} {vs:List J} (hx:ev x=some (.ptr b off)) (hb:V.m.get b=some (.row cells e ro)) (u:dN P t=some (some n)) (hl:off+n<=cells.length) (hv:(cells.drop off).take n=vs):dM P G ev V (.load t x)= .val (.agg vs) V:=by
 refine pE Z ?_;have d:Nat.ble (off+n) (di cells)=true:=by rw[nE_,bT];exact hl
 simp only[eY,hx,hb,u,d,cond_true,dp,dF,hv]
theorem az {s:TypeId} {x:Operand} {i:Nat} {b:Pos} {off k:Nat} (hx:ev x=some (.ptr b off)) (hk:mR P s i=some k):dM P G ev V (.fieldAddr s x i)= .val (.ptr b (off+k)) V:=by
 refine bD Z ?_;unfold mR at hk;simp only[du,hx];cases d:structOf P s with
 | none=>simp_all
 | some fs=>
  rw[d] at hk;dsimp only at hk⊢;cases hf:fs[i]? with
  | none=>simp_all
  | some f=>
   rw[hf] at hk;dsimp only at hk⊢;rw[oJ] at hk
   grind
theorem ND {t e:TypeId} {j:TypeInfo} {x i:Operand} {b:Pos} {off len n:Nat} {c:nL} {k:IntKind} (d:P.underlying t=some (.slice e)) (hj:P.info? e=some j) (hx:ev x=some (.slice b off len c)) (hi:ev i=some (.int k (.ofNat n))) (m:n<len):dM P G ev V (.indexAddr t x i)= .val (.ptr b (off+n*j.size)) V:=by
 refine bD Z ?_;have:Nat.ble (Nat.succ n) len=true:=by rw[nE_];exact m
 simp only[du,d,hx,hi,hj,this,cond_true]
theorem G5 {c:Call} {t e:TypeId} {x:Operand} {b:Pos} {off len:Nat} {cp:nL} (hc:c.callee= .builtin .len) (d:c.argTypes[0]? =some t) (m:c.args.toList= [x]) (hu:P.underlying t=some (.slice e)) (hx:ev x=some (.slice b off len cp)):dM P G ev V (.call c)= .val (.int .i64 (.ofNat len)) V:=by
 refine bD (by simp[kindOf,hc,isMap,d,hu]) ?_;simp only[du,hc,d,m,hx,wD,hu,Option.map_some]
theorem aC {o:BinOp} {t r:TypeId} {x y:Operand} {a b v:J} (hx:ev x=some a) (hy:ev y=some b) (h:q8 P (yQ x || yQ y) o t a b=some v):dM P G ev V (.binOp o t x y r)= .val v V:=by
 refine bD Z ?_;simp only[du,hx,hy,h]
theorem aJ {c a b:Operand} {q:Bool} {v:J} (hc:ev c=some (.bool q)) (h:(if q then ev a else ev b)=some v):dM P G ev V (.pick c a b)= .val v V:=by
 refine bD Z ?_;cases q with
 | true=>simp only[du,hc];exact h
 | false=>simp only[du,hc];exact h
theorem dV {t:TypeId} {x:Operand} {q:Bool} (hx:ev x=some (.bool q)):dM P G ev V (.unOp .not t x)= .val (.bool (!q)) V:=by
 refine bD Z ?_;simp only[du,hx];cases q<;>rfl
theorem cG {e:TypeId} {x:Operand} {v:J} {cs:List J} (hx:ev x=some v) (hc:cd v=some cs):dM P G ev V (.box e x)= .val (.ptr V.next 0) (V.alloc (.row cs e false)):=by
 exact qo (op:=.box e x) (mk:=.ptr) (ob:=.row cs e false) Z (by simp only[eZ,hx,Option.bind_some,hc])
theorem dG {e:TypeId} {cs:List J} (hz:(eQ P e).bind cd=some cs) (b:qh P e=false):dM P G ev V (.alloc e)= .val (.ptr V.next 0) (V.alloc (.row cs e false)):=by
 exact qo (op:=.alloc e) (mk:=.ptr) (ob:=.row cs e false) Z (by simp only[eZ,hz,b,cond_false])
theorem NG {t:TypeId} {x y:Operand} {b:Pos} {off:Nat} {v:J} {cs cells:List J} {e:Nat} {j:TypeInfo} (hx:ev x=some (.ptr b off)) (hy:ev y=some v) (hc:cd v=some cs) (hb:V.m.get b=some (.row cells e false)) (hj:P.info? t=some j) (hl:cs.length=j.size) (hle:off+j.size<=cells.length) (aa:bO cs=true):
  dM P G ev V (.store t x y)= .skip (V.setObj b (.row (dB cs cells off) e false)):=by
 refine iy Z ?_
 have h1:(Nat.beq (di cs) j.size && Nat.ble (off+j.size) (di cells) && bO cs)=true:=by
  rw[bA_,bA_,Nat.beq_eq,nE_,bT,bT]
  simp_all
 simp only[fw,hx,hy,tQ,hc,hb,hj,h1,cond_true]
theorem aT {c:Call} {f:Operand} {g:Nat} {fi ca args:List J} (hc:c.callee= .value f) (hf:ev f=some (.func g fi ca)) (b:tb ev c.args.toList=some args) (d:qv P g=true):dM P G ev V (.call c)= .enter g (fi++(args++ca)) V:=by
 refine iy (by simp[kindOf,hc]) ?_;simp only[fw,hc,hf,b,vJ,d,cond_true,dH]
end
end Go.Ev
namespace Go.Ev
theorem GV {α:Type} (n:Nat) (t:jH α) (b:n<16):(xG n).run t ((jr n).run t)=t:=by
 rcases HK b with rfl | rfl | rfl | rfl | rfl | rfl | rfl | rfl | rfl | rfl | rfl | rfl | rfl | rfl | rfl | rfl<;>rfl
theorem Ks {α:Type} (t:ja α) (k:Nat) (hk:k<256):oY t k (jz t k)=t:=by
 unfold oY jz;rw[GV (Nat.mod k 16) _<|Nat.mod_lt _ (by decide)];exact GV (Nat.div k 16) _ (by show k/16<16;omega)
theorem PT.MY {α:Type} {t:PT α} {k:Nat} {o:Option α} (h:t.get k=o) (hk:k<256):t.put o k=t:=by
 subst h;rw[PT.oI _ hk];cases t with
 | mk s m l=>rw[PT.ss _ _ _ _ hk];exact congrArg (fun s=>PT.mk s m l)<|Ks s k hk
def Kv:PT J->List (Nat×J)->PT J
 | t,[]=>t
 | t,(k,v)::l=>Kv (t.put (some v) k) l
def Oi (t:PT J):List (Nat×J)->Prop
 | []=>True
 | (k,v)::l=>t.get k=some v/\Oi t l
theorem Oi.Kv {t:PT J}:∀{l:List (Nat×J)},Oi t l->(l.all fun x=>Nat.blt x.1 256)=true->Kv t l=t
 | [],_,_=>rfl
 | (k,v)::l,h,hl=>by
  rw[List.all_cons,bA_] at hl;have hk:k<256:=by have:=hl.1;exact Nat.le_of_ble_eq_true this
  show Go.Ev.Kv (t.put (some v) k) l=t;rw[PT.MY h.1 hk];exact h.2.Kv hl.2
section
variable [Env] {P:Program} {G:Cx} {ev:Operand->Option J} {V:N}
theorem aM {id:Nat} {Q:Ex->PT J->N->Prop} {t:PT J} (h:Q .normal t V):jI id Q (.exit id) t V:=by
 show(if id=id then _ else _)
 simp_all
theorem zR {id j:Nat} {Q:Ex->PT J->N->Prop} {t:PT J} (hj:Nat.beq j id=false) (h:Q (.exit j) t V):jI id Q (.exit j) t V:=by
 show(if j=id then _ else _);rw[if_neg (fun e=>by simp_all)];exact h
theorem aP {n i:Nat} {b:Code} {Q:Ex->PT J->N->Prop} {t:PT J} (h:Q (.exit i) t V):ew P G n b Q (.exit i) t V:=h
theorem ay {n:Nat} {b:Code} {Q:Ex->PT J->N->Prop} {t:PT J} (h:Q .ret t V):ew P G n b Q .ret t V:=h
theorem iY {t e:TypeId} {m:Nat} {x i:Operand} {b:Pos} {off len n:Nat} {c:nL} {k:IntKind} (d:P.underlying t=some (.slice e)) (hj:(P.info? e).map (·.size)=some m) (hx:ev x=some (.slice b off len c)) (hi:ev i=some (.int k (.ofNat n))) (u:n<len):dM P G ev V (.indexAddr t x i)= .val (.ptr b (off+n*m)) V:=by
 cases hq:P.info? e with
 | none=>simp_all
 | some j=>
  rw[hq] at hj;cases hj;exact ND d hq hx hi u
theorem kx {t:TypeId} {m:Nat} {x y:Operand} {b:Pos} {off:Nat} {v:J} {cs cells:List J} {e:Nat} (hx:ev x=some (.ptr b off)) (hy:ev y=some v) (hc:cd v=some cs) (hb:V.m.get b=some (.row cells e false)) (hj:(P.info? t).map (·.size)=some m) (hl:cs.length=m) (hle:off+m<=cells.length) (aa:bO cs=true):
  dM P G ev V (.store t x y)= .skip (V.setObj b (.row (dB cs cells off) e false)):=by
 cases hq:P.info? t with
 | none=>simp_all
 | some j=>
  grind [NG]
end
end Go.Ev
namespace Go.Ev
variable [Env]
abbrev KP:=Nat->cu->Prop
def KP.le (K K':KP):Prop:=∀b o,K b o->K' b o
theorem KP.le_refl (K:KP):KP.le K K:=fun _ _ h=>h
theorem KP.le_trans {K K' K'':KP} (h:KP.le K K') (h':KP.le K' K''):KP.le K K'':=fun b o hb=>h' b o (h b o hb)
def KP.add (K:KP) (b:Nat) (o:cu):KP:=fun b' o'=>K b' o'∨(b'=b/\o'=o)
theorem KP.wC (K:KP) (b:Nat) (o:cu):KP.le K (K.add b o):=fun _ _ h=>.inl h
abbrev Own:=List (Nat×cu)
structure St (V:N) (K:KP) (L:Own):Prop where
 kept:∀b o,K b o->b<V.next/\V.m.get b=some o/\∀e∈L,e.1≠b
 own:∀e∈L,e.1<V.next/\V.m.get e.1=some e.2
 ne:L.Pairwise fun a b=>a.1≠b.1
section
variable {V:N} {K:KP} {L:Own}
theorem St.eS (h:St V K L) {b:Nat} {o:cu} (hk:K b o):V.m.get b=some o:=(h.kept b o hk).2.1
theorem St.get (h:St V K L) (k:Nat) {b:Nat} {o:cu} (hk:L[k]? =some (b,o)):V.m.get b=some o:=(h.own _<|gB_ hk).2
theorem St.alloc (h:St V K L) (o:cu):St (V.alloc o) K ((V.next,o)::L) where
 kept b o' hb:=by
  obtain⟨h1,d,h3⟩:=h.kept b o' hb;refine⟨Nat.lt_succ_of_lt h1,by rw[mw V o h1];exact d,fun e he=>?_⟩
  grind
 own e he:=by
  rcases mQ_.1 he with rfl | he
  ·exact⟨Nat.lt_succ_self _,xZ _ _⟩
  obtain⟨h1,d⟩:=h.own e he;exact⟨Nat.lt_succ_of_lt h1,by rw[mw V o h1];exact d⟩
 ne:=List.pairwise_cons.2 ⟨fun e he=>fun hh=>by have:=(h.own e he).1;omega,h.ne⟩
theorem St.pop {e:Nat×cu} (h:St V K (e::L)):St V K L where
 kept b o hb:=let ⟨h1,d,m⟩:=h.kept b o hb;⟨h1,d,fun e he=>m e (mC_ _ he)⟩
 own e he:=h.own e (mC_ _ he)
 ne:=(List.pairwise_cons.1 h.ne).2
theorem St.bX:∀{M:Own},St V K (M++L)->St V K L
 | [],h=>h
 | _::_,h=>St.bX h.pop
theorem St.perm {L':Own} (h:St V K L) (hp:L.Perm L'):St V K L' where
 kept b o hb:=let ⟨h1,m,u⟩:=h.kept b o hb;⟨h1,m,fun e he=>u e (hp.mem_iff.2 he)⟩
 own e he:=h.own e (hp.mem_iff.2 he)
 ne:=(hp.pairwise_iff (fun {a b} d=>fun e=>d e.symm)).1 h.ne
theorem St.rD {b:Nat} {o:cu} (h:St V K ((b,o)::L)):St V (K.add b o) L where
 kept b' o' hb:=by
  rcases hb with hb | ⟨rfl,rfl⟩
  ·exact h.pop.kept b' o' hb
  exact⟨(h.own _<|mS_ ..).1,(h.own _<|mS_ ..).2,fun e he hh=>(List.pairwise_cons.1 h.ne).1 e he hh.symm⟩
 own:=h.pop.own
 ne:=h.pop.ne
theorem St.tO {b:Nat} {o:cu} (h:St V K ((b,o)::L)) (o':cu):St (V.setObj b o') K ((b,o')::L) where
 kept b' o'' hb:=by
  obtain⟨h1,d,h3⟩:=h.kept b' o'' hb;refine⟨h1,by grind [my,mS_],fun e he=>?_⟩;rcases mQ_.1 he with rfl | he
  ·simp_all
  grind
 own e he:=by
  rcases mQ_.1 he with rfl | he
  ·exact⟨(h.own _<|mS_ ..).1,Ai _ _ _⟩
  obtain⟨h1,d⟩:=h.own e (mC_ _ he);exact⟨h1,by rw[my V o' (fun hh=>(List.pairwise_cons.1 h.ne).1 e he hh.symm)];exact d⟩
 ne:=List.pairwise_cons.2 ⟨(List.pairwise_cons.1 h.ne).1,(List.pairwise_cons.1 h.ne).2⟩
theorem St.KI {b:Nat} {o:cu} {x:Nat×cu} (h:St V K (x::(b,o)::L)) (o':cu):St (V.setObj b o') K (x::(b,o')::L):=
 ((h.perm<|List.Perm.swap ..).tO o').perm (List.Perm.swap ..)
theorem Qu {α:Type} (x y z:α) (L:List α):(x::y::z::L).Perm (z::x::y::L):=
 (List.Perm.cons x<|List.Perm.swap z y L).trans (List.Perm.swap z x (y::L))
theorem St.xl {b:Nat} {o:cu} (h:St V K ((b,o)::L)) (o':cu):St ((V.drop b).alloc o') K ((V.next,o')::L):=by
 refine St.alloc (V:=V.drop b) ⟨fun b' o'' hb=>?_,fun e he=>?_,h.pop.ne⟩ o'
 ·obtain⟨h1,d,u⟩:=h.kept b' o'' hb;exact⟨h1,by rw[show(V.drop b).m.get b'=V.m.get b' from PT.db _ _ _ _ (fun e=>u _ (mS_ ..) e.symm)];exact d,fun e he=>u e (mC_ _ he)⟩
 obtain⟨h1,d⟩:=h.own e (mC_ _ he);exact⟨h1,by rw[show(V.drop b).m.get e.1=V.m.get e.1 from PT.db _ _ _ _ (fun hh=>(List.pairwise_cons.1 h.ne).1 e he hh.symm)];exact d⟩
theorem St.named (h:St V K L):∃L',St V K L'/\L=L':=⟨L,h,Z⟩
theorem St.ext {V':N} (h:St V K L) (he:Ext V V'):St V' K L where
 kept b o hb:=let ⟨h1,d,m⟩:=h.kept b o hb;⟨Nat.lt_of_lt_of_le h1 he.1,he.2 b o h1 d,m⟩
 own e hm:=let ⟨h1,d⟩:=h.own e hm;⟨Nat.lt_of_lt_of_le h1 he.1,he.2 _ _ h1 d⟩
 ne:=h.ne
end
def dz (K:KP) (p:J) (vs:List J):Prop:=
 ∃(b off:Nat) (cells:List J) (e:Nat) (ro:Bool),p= .ptr b off/\K b (.row cells e ro)/\off+vs.length<=cells.length/\(cells.drop off).take vs.length=vs
theorem dz.mono {K K':KP} (hk:KP.le K K') {p:J} {vs:List J} (h:dz K p vs):dz K' p vs:=
 let ⟨b,off,cells,e,ro,h1,d,m,h4⟩:=h;⟨b,off,cells,e,ro,h1,hk _ _ d,m,h4⟩
def Bl (m len:Nat) (c:nL):Prop:=c= .upto m∨∃n,c= .known n/\len<=n
def bG {α:Type} (K:KP) (m:Nat) (R:α->List J->Prop) (l:List α) (v:J):Prop:=
 (l= []/\v= .au)∨∃(b off:Nat) (c:nL) (cells:List J) (e:Nat) (ro:Bool),v= .slice b off l.length c/\Bl m l.length c/\K b (.row cells e ro)/\off+l.length*m<=cells.length/\l.length<=9223372036854775807/\
  ∀(i:Nat) (x:α),l[i]? =some x->R x ((cells.drop (off+i*m)).take m)
theorem bG.mono {α:Type} {K K':KP} {m:Nat} {R R':α->List J->Prop} {l:List α} {v:J} (h:bG K m R l v) (hk:KP.le K K') (d:∀x vs,R x vs->R' x vs):bG K' m R' l v:=by
 rcases h with h | ⟨b,off,c,cells,e,ro,h1,u,A,h4,h5⟩
 ·exact .inl h
 exact .inr ⟨b,off,c,cells,e,ro,h1,u,hk _ _ A,h4,h5.1,fun i x hx=>d x _ (h5.2 i x hx)⟩
theorem bG.bK {α:Type} {K:KP} {m:Nat} {R:α->List J->Prop} {l:List α} {v:J} (h:bG K m R l v):l.length<=9223372036854775807:=by
 rcases h with ⟨rfl,_⟩ | ⟨b,off,c,cells,e,ro,h1,h2,h3,h4,h5,_⟩
 ·exact Nat.zero_le _
 exact h5
theorem bG.leaf {α:Type} {K:KP} {m:Nat} {R:α->List J->Prop} {l:List α} {v:J} (h:bG K m R l v):cd v=some [v]/\fJ v=true:=by
 rcases h with ⟨_,rfl⟩ | ⟨b,off,c,cells,e,ro,rfl,_⟩<;>exact⟨rfl,rfl⟩
theorem bG.wD {α:Type} {K:KP} {m:Nat} {R:α->List J->Prop} {l:List α} {v:J} (h:bG K m R l v) {P:Program} {t e:TypeId} (hu:P.underlying t=some (.slice e)):Go.Ev.wD P t v=some l.length:=by
 rcases h with ⟨rfl,rfl⟩ | ⟨b,off,c,cells,e,ro,rfl,_⟩
 ·simp only[Go.Ev.wD,hu];rfl
 simp only[Go.Ev.wD,hu]
theorem bG.at {α:Type} {K:KP} {m:Nat} {R:α->List J->Prop} {l:List α} {v:J} (h:bG K m R l v) {i:Nat} {x:α} (hi:l[i]? =some x):
  ∃(b off:Nat) (c:nL) (vs:List J),v= .slice b off l.length c/\i<l.length/\dz K (.ptr b (off+i*m)) vs/\vs.length=m/\R x vs:=by
 have d:i<l.length:=(gA.1 hi).1;rcases h with ⟨rfl,_⟩ | ⟨b,off,c,cells,e,ro,rfl,h2,A,h4,h5⟩
 ·simp_all
 have hle:(i+1)*m<=l.length*m:=nM_ _ d;rw[Nat.succ_mul] at hle;have u:((cells.drop (off+i*m)).take m).length=m:=by grind
 refine⟨b,off,c,_,Z,d,⟨b,off+i*m,cells,e,ro,Z,A,by rw[u];omega,by rw[u]⟩,u,h5.2 i x hi⟩
section
variable {P:Program} {G:Cx} {ev:Operand->Option J} {V:N} {K:KP} {L:Own}
theorem aO {α:Type} {m:Nat} {R:α->List J->Prop} {l:List α} {c:Call} {t e:TypeId} {x:Operand} {v:J} (d:bG K m R l v) (hc:c.callee= .builtin .len) (b:c.argTypes[0]? =some t) (u:c.args.toList= [x]) (hu:P.underlying t=some (.slice e)) (hx:ev x=some v):dM P G ev V (.call c)= .val (.int .i64 (.ofNat l.length)) V:=by
 refine bD (by simp[kindOf,hc,isMap,b,hu]) ?_;simp only[du,hc,b,u,hx,d.wD hu,Option.map_some]
theorem Dt {c:Call} {t:TypeId} {x:Operand} {s:List Nat} (hc:c.callee= .builtin .len) (b:c.argTypes[0]? =some t) (d:c.args.toList= [x]) (hu:P.underlying t=some .string) (hx:ev x=some (.str s)):dM P G ev V (.call c)= .val (.int .i64 (.ofNat<|di s)) V:=by
 refine bD (by simp[kindOf,hc,isMap,b,hu]) ?_;simp only[du,hc,b,d,hx,wD,hu,Option.map_some]
theorem aN {t:TypeId} {x:Operand} {p v:J} {vs:List J} (d:St V K L) (hp:dz K p vs) (hx:ev x=some p) (m:dN P t=some none) (hv:vs[0]? =some v):dM P G ev V (.load t x)= .val v V:=by
 obtain⟨b,off,cells,e,ro,rfl,u,h3,h4⟩:=hp;refine aw hx (d.eS u) m ?_
 grind [eU]
theorem LD {t:TypeId} {x:Operand} {p:J} {vs:List J} {n:Nat} (d:St V K L) (hp:dz K p vs) (hx:ev x=some p) (m:dN P t=some (some n)) (hv:n<=vs.length):dM P G ev V (.load t x)= .val (.agg<|vs.take n) V:=by
 obtain⟨b,off,cells,e,ro,rfl,u,h3,h4⟩:=hp;refine bp hx (d.eS u) m oM ?_
 grind
end
section
variable {P:Program} {G:Cx} {n:Nat} {t:PT J} {V:N} {K:KP} {L:Own} {Q:Ex->PT J->N->Prop} {ops:Array Oper} {o:Oper} {l:List Oper}
theorem bx {c:Bool} {t':Bool->PT J} (hw:bF ops t o=some true) (hv:dM P G (bn G t) V o.op= .val (.bool c) V) (hp:∀b,dA t n o.dst (.bool b)=some (t' b))
  (h1:c=true->bP P G ops n l (t' true) V Q) (h0:c=false->bP P G ops n l (t' false) V Q):bP P G ops n (o::l) t V Q:=by
 refine Y hw hv (hp c) ?_;cases c with
 | true=>exact h1 Z
 | false=>exact h0 Z
theorem bJ (d:St V K L) {ob:cu} {t':Nat->PT J} (hw:bF ops t o=some true) (hv:dM P G (bn G t) V o.op= .val (.ptr V.next 0) (V.alloc ob)) (hp:∀b,dA t n o.dst (.ptr b 0)=some (t' b))
  (h:∀(V':N) (b:Nat),St V' K ((b,ob)::L)->bP P G ops n l (t' b) V' Q):bP P G ops n (o::l) t V Q:=
 Y hw hv (hp _) (h _ _<|d.alloc ob)
theorem gw (d:St V K L) {ob:cu} {k c:Nat} {t':Nat->PT J} (hw:bF ops t o=some true) (hv:dM P G (bn G t) V o.op= .val (.slice V.next 0 k (.known c)) (V.alloc ob)) (hp:∀b,dA t n o.dst (.slice b 0 k (.known c))=some (t' b))
  (h:∀(V':N) (b:Nat),St V' K ((b,ob)::L)->bP P G ops n l (t' b) V' Q):bP P G ops n (o::l) t V Q:=
 Y hw hv (hp _) (h _ _<|d.alloc ob)
theorem cF {b:Nat} {ob ob':cu} {t':PT J} (d:St V K ((b,ob)::L)) (hw:bF ops t o=some true) (hv:dM P G (bn G t) V o.op= .skip (V.setObj b ob')) (hp:dA t n o.dst unit=some t')
  (h:∀V',St V' K ((b,ob')::L)->bP P G ops n l t' V' Q):bP P G ops n (o::l) t V Q:=lu hw hv hp (h _<|d.tO ob')
theorem J8 {b:Nat} {ob ob':cu} {x:Nat×cu} {t':PT J} (d:St V K (x::(b,ob)::L)) (hw:bF ops t o=some true) (hv:dM P G (bn G t) V o.op= .skip (V.setObj b ob')) (hp:dA t n o.dst unit=some t')
  (h:∀V',St V' K (x::(b,ob')::L)->bP P G ops n l t' V' Q):bP P G ops n (o::l) t V Q:=lu hw hv hp (h _<|d.KI ob')
theorem cm {α:Type} {m:Nat} {R:α->List J->Prop} {la:List α} {v:J} {i:Nat} {x:α} {ty e:TypeId} {xo io:Operand} {k:IntKind} {t':J->PT J} (A:bG K m R la v) (hi:la[i]? =some x) (hw:bF ops t o=some true) (C:o.op= .indexAddr ty xo io)
  (E:P.underlying ty=some (.slice e)) (hj:(P.info? e).map (·.size)=some m) (hx:bn G t xo=some v) (d:bn G t io=some (.int k (.ofNat i))) (hp:∀p,dA t n o.dst p=some (t' p))
  (h:∀p vs,dz K p vs->vs.length=m->R x vs->bP P G ops n l (t' p) V Q):bP P G ops n (o::l) t V Q:=by
 obtain⟨b,off,c,vs,rfl,u,h1,F,I⟩:=A.at hi;refine Y hw ?_ (hp _)<|h _ vs h1 F I;rw[C];exact iY E hj hx d u
theorem fg {p:J} {vs:List J} {s:TypeId} {xo:Operand} {i k:Nat} {t':J->PT J} (d:dz K p vs) (hw:bF ops t o=some true) (m:o.op= .fieldAddr s xo i) (hx:bn G t xo=some p) (hk:mR P s i=some k) (hl:k<=vs.length) (hp:∀p,dA t n o.dst p=some (t' p))
  (h:∀p',dz K p' (vs.drop k)->bP P G ops n l (t' p') V Q):bP P G ops n (o::l) t V Q:=by
 obtain⟨b,off,cells,e,ro,rfl,u,h3,h4⟩:=d;refine Y hw ?_ (hp _)<|h _ ⟨b,off+k,cells,e,ro,Z,u,by grind,?_⟩
 ·rw[m];exact az hx hk
 grind [List.drop_take,List.drop_drop]
theorem cR {f:Nat} {args:List J} {t':J->PT J} {R:J->N->Prop} (hw:bF ops t o=some true) (hv:dM P G (bn G t) V o.op= .enter f args V) (hp:∀v,dA t n o.dst v=some (t' v))
  (hc:aW P G f args V R) (h:∀v V',R v V'->bP P G ops n l (t' v) V' Q):bP P G ops n (o::l) t V Q:=
 En hw hv (hc.mono fun v V' b=>⟨_,hp v,h v V' b⟩)
theorem aD {x:Operand} {a b:Code} {c:Bool} (hc:bn G t x=some (.bool c)) (h1:c=true->Ev P G a n t V Q) (h0:c=false->Ev P G b n t V Q):Ev P G (.cond x a b) n t V Q:=by
 refine Ae hc ?_
 grind
end
theorem aQ:bO []=true:=rfl
theorem ar {v:J} {vs:List J} (h:fJ v=true) (hs:bO vs=true):bO (v::vs)=true:=by
 grind [bO]
section
variable {P:Program} {G:Cx} {ev:Operand->Option J} {V:N} {K:KP} {L:Own}
theorem bg {t:TypeId} {m:Nat} {x y:Operand} {b:Pos} {off:Nat} {v:J} {cs cells cells':List J} {e:Nat} (hx:ev x=some (.ptr b off)) (hy:ev y=some v) (hc:cd v=some cs) (hb:V.m.get b=some (.row cells e false)) (hj:(P.info? t).map (·.size)=some m) (hl:cs.length=m) (hle:off+m<=cells.length) (d:bO cs=true) (u:dB cs cells off=cells'):
  dM P G ev V (.store t x y)= .skip (V.setObj b (.row cells' e false)):=by
 subst u;exact kx hx hy hc hb hj hl hle d
theorem bE {t:TypeId} {x:Operand} {p:J} {vs:List J} {n:Nat} (hs:St V K L) (hp:dz K p vs) (hx:ev x=some p) (ha:dN P t=some (some n)) (hv:vs.length=n):dM P G ev V (.load t x)= .val (.agg vs) V:=by
 grind [LD,List.take_length]
def placesOf (P:Program) (t:TypeId):Option (List (Nat×Nat)):=(structOf P t).bind fun fs=>cM (fun f:Field=>(P.info? f.type).map fun j=>(f.offset,j.size)) fs.toList
theorem bI {place:Nat->Option (Nat×Nat)} {cells:List J}:jA place ev [] cells=some cells:=rfl
theorem bA {place:Nat->Option (Nat×Nat)} {i:Nat} {x:Operand} {l:List (Nat×Operand)} {cells:List J} {off size:Nat} {v:J} {vs:List J} {r:Option (List J)} (hp:place i=some (off,size)) (hx:ev x=some v) (hc:cd v=some vs) (hl:(Nat.beq (di vs) size && Nat.ble (off+size) (di cells))=true) (h:jA place ev l (dB vs cells off)=r):jA place ev ((i,x)::l) cells=r:=by
 grind [jA]
theorem dC {t:TypeId} {parts:Array (Nat×Operand)} {places:List (Nat×Nat)} {zero cs:List J} (hp:placesOf P t=some places) (hz:(eQ P t).bind cd=some zero) (hu:dN P t=some (some zero.length)) (hf:jA (nth places) ev parts.toList zero=some cs) (b:(structOf P t).isSome=true):dM P G ev V (.build t parts)= .val (.agg cs) V:=by
 refine bD Z ?_;unfold placesOf structOf at hp;unfold structOf at b;rw[nc] at hp b;simp only[du,hz]
 grind
theorem Lv {s d:TypeId} {x:Operand} {j k:IntKind} {n:Int} (hk:kindOf P (.convert s d x)= .pure) (b:P.underlying s=some (.int j)) (hd:P.underlying d=some (.int k)) (hx:ev x=some (.int j n)):dM P G ev V (.convert s d x)= .val (.int k<|wr k n) V:=by
 refine bD hk ?_;simp only[du,b,hd,hx]
end
section
variable {P:Program} {G:Cx} {n:Nat} {t:PT J} {V:N} {K:KP} {L:Own} {Q:Ex->PT J->N->Prop} {ops:Array Oper} {o:Oper} {l:List Oper}
theorem bB {f:Nat} {args:List J} {u:J} {t':J->PT J} (hw:bF ops t o=some true) (hv:dM P G (bn G t) V o.op= .enter f args V) (hp:∀v,dA t n o.dst v=some (t' v))
  (hc:aW P G f args V fun v V'=>v=u/\St V' K L) (h:∀V',St V' K L->bP P G ops n l (t' u) V' Q):bP P G ops n (o::l) t V Q:=
 cR hw hv hp hc fun v V' ⟨hv,aq⟩=>by simp_all
theorem bj {x:Operand} {a b:Code} (hc:bn G t x=some (.bool true)) (h:Ev P G a n t V Q):Ev P G (.cond x a b) n t V Q:=Ae hc h
theorem bz {x:Operand} {a b:Code} (hc:bn G t x=some (.bool false)) (h:Ev P G b n t V Q):Ev P G (.cond x a b) n t V Q:=Ae hc h
theorem B {b:Code} (h:Ev P G b n t V Q):ew P G n b Q .normal t V:=h
theorem aH {id:Nat} (h:Q .normal t V):jI id Q .normal t V:=h
theorem aK {id:Nat} (h:Q .ret t V):jI id Q .ret t V:=h
def wJ (I:Nat->PT J->N->Prop) (j:Nat) (Q:Ex->PT J->N->Prop) (e:Ex) (t:PT J) (V:N):Prop:=
 match e with
 | .normal=>∃i,i<j/\I i t V
 | e=>Q e t V
theorem aL {I:Nat->PT J->N->Prop} {j:Nat} (h:∃i,i<j/\I i t V):wJ I j Q .normal t V:=h
theorem aR {I:Nat->PT J->N->Prop} {j i:Nat} (h:Q (.exit i) t V):wJ I j Q (.exit i) t V:=h
theorem bq {I:Nat->PT J->N->Prop} {j:Nat} (h:Q .ret t V):wJ I j Q .ret t V:=h
theorem Jk {b:Code} (I:Nat->PT J->N->Prop) (j:Nat) (d:I j t V) (step:∀j t V,I j t V->Ev P G b n t V (wJ I j Q)):Ev P G (.loop b) n t V Q:=
 Mg I (fun j t V h=>(step j t V h).mono fun e t' V' hq=>by cases e<;>exact hq) j t V d
end
def JF:Nat:=1000
def HJ (f:Nat):Bool:=Nat.beq f 5
def Sf:Nat:=50
def Sg:Nat:=54
def Sh:Nat:=94
def H7 (f:Nat):Bool:=Nat.beq f Sf || Nat.beq f Sg || Nat.beq f Sh
structure Plain (G:Cx):Prop where
 h1:∀f a s,H7 f=false->G.x6 f a s=none
 h2:∀f a,HJ f=false->G.Ld f a=none
 h3:G.mem= []
 h4:∀f a s,G.stop f a s=none
 h5:∀f,Nat.beq f JF=false->G.fk f=false
theorem Jl {P:Program} {G:Cx} (b:Plain G) {f:Nat} {fn:Func} {c:Code} {args:List J} {V:N} {R:J->N->Prop} {t:PT J} (hf:P.funcs[f]? =some fn) (hb:fn.body=some c) (d:qA fn.ntmps args=some t)
  (h:Ev P G c fn.ntmps t V fun e t' V'=>(e= .normal∨e= .ret)/\∃v,dU P fn t' V'=some v/\R v V') (hk:Nat.beq f JF=false:=by rfl) (hl:HJ f=false:=by rfl) (m:H7 f=false:=by rfl):aW P G f args V R:=
 FQ (b.h1 _ _ _ m) (b.h2 _ _ hl) (b.h4 _ _ _) (b.h5 _ hk) hf hb d h
def Ek (P:Program) (fn:Func) (R:J->N->Prop) (e:Ex) (t:PT J) (V:N):Prop:=(e= .normal∨e= .ret)/\∃v,dU P fn t V=some v/\R v V
theorem aY {P:Program} {G:Cx} (b:Plain G) {f:Nat} {fn:Func} {c:Code} {args:List J} {V:N} {R:J->N->Prop} {t:PT J} (hf:P.funcs[f]? =some fn) (hb:fn.body=some c) (d:qA fn.ntmps args=some t)
  (h:Ev P G c fn.ntmps t V (Ek P fn R)) (hk:Nat.beq f JF=false:=by rfl) (hl:HJ f=false:=by rfl) (m:H7 f=false:=by rfl):aW P G f args V R:=Jl b hf hb d h hk hl m
theorem uF {P:Program} {fn:Func} {k:Nat} {t:PT J} {V:N} {v:J} (b:fn.results.toList= [.tmp k]) (h:t.get k=some v):dU P fn t V=some v:=by
 unfold dU;rw[b]
 have:cM (fm P t V) [.tmp k]=some [v]:=by
  have h':fm P t V (.tmp k)=some v:=h;unfold cM;simp only[h']
 rw[this]
theorem eA {P:Program} {fn:Func} {j k:Nat} {t:PT J} {V:N} {u v:J} (m:fn.results.toList= [.tmp j,.tmp k]) (h1:t.get j=some u) (A:t.get k=some v):dU P fn t V=some (.tuple [u,v]):=by
 unfold dU;rw[m]
 have:cM (fm P t V) [.tmp j,.tmp k]=some [u,v]:=by
  have b:fm P t V (.tmp j)=some u:=h1;have d:fm P t V (.tmp k)=some v:=A;unfold cM;simp only[b,d]
 rw[this]
theorem aA {P:Program} {fn:Func} {R:J->N->Prop} {t:PT J} {V:N} {k:Nat} {v:J} (b:fn.results.toList= [.tmp k]) (h:t.get k=some v) (d:R v V):Ek P fn R .ret t V:=⟨.inr Z,v,uF b h,d⟩
theorem vT {P:Program} {fn:Func} {R:J->N->Prop} {t:PT J} {V:N} {j k:Nat} {u v:J} (b:fn.results.toList= [.tmp j,.tmp k]) (h1:t.get j=some u) (d:t.get k=some v) (m:R (.tuple [u,v]) V):Ek P fn R .ret t V:=⟨.inr Z,_,eA b h1 d,m⟩
end Go.Ev
namespace Go.Ev
theorem jH.eta {α:Type} (t:jH α):t=⟨(jr 0).run t,(jr 1).run t,(jr 2).run t,(jr 3).run t,(jr 4).run t,(jr 5).run t,(jr 6).run t,(jr 7).run t,(jr 8).run t,(jr 9).run t,(jr 10).run t,(jr 11).run t,(jr 12).run t,(jr 13).run t,(jr 14).run t,(jr 15).run t⟩:=by cases t;rfl
theorem jH.same {α:Type} {t t':jH α} (h:∀n,n<16->(jr n).run t=(jr n).run t'):t=t':=by
 rw[jH.eta t,h 0 (by decide),h 1 (by decide),h 2 (by decide),h 3 (by decide),h 4 (by decide),h 5 (by decide),h 6 (by decide),h 7 (by decide),h 8 (by decide),h 9 (by decide),h 10 (by decide),h 11 (by decide),h 12 (by decide),h 13 (by decide),h 14 (by decide),h 15 (by decide),<-jH.eta t']
theorem ja.same {α:Type} {t t':ja α} (h:∀k,k<256->jz t k=jz t' k):t=t':=by
 refine jH.same fun n hn=>jH.same fun m hm=>?_
 have:=h (n*16+m) oM;unfold jz at this;have e1:Nat.div (n*16+m) 16=n:=by show(n*16+m)/16=n;omega
 have e2:Nat.mod (n*16+m) 16=m:=by show(n*16+m)%16=m;omega
 simp_all
variable [Env]
def bc (W:List Nat) (t t':PT J):Prop:=t'.m=t.m/\t'.l=t.l/\∀k,k<256->W.elem k=false->jz t'.s k=jz t.s k
theorem bc.refl (W:List Nat) (t:PT J):bc W t t:=⟨Z,Z,fun _ _ _=>Z⟩
theorem bc.put {W:List Nat} {t t':PT J} {w:Nat} {o:Option J} (hw:(W.elem w && Nat.blt w 256)=true) (h:bc W t t'):bc W t (t'.put o w):=by
 obtain⟨h1,b,d⟩:=h;rw[bA_,uZ] at hw;obtain⟨s,m,l⟩:=t';rw[PT.ss _ _ _ _ hw.2];refine⟨h1,b,fun k hk u=>?_⟩;show jz (oY s w o) k=_;rw[lA _ _ _ _ hw.2 hk,if_neg (fun e=>by simp_all)];exact d k hk u
theorem bc.eh {W:List Nat} {t t':PT J} {w:Nat} (hw:Nat.blt w 256=true) (h:bc (w::W) t t'):∃o,bc W (t.put o w) t':=by
 rw[uZ] at hw;obtain⟨h1,b,h3⟩:=h;refine⟨t'.get w,?_⟩;obtain⟨s,m,l⟩:=t;rw[PT.ss _ _ _ _ hw,PT.oI _ hw];refine⟨h1,b,fun k hk hn=>?_⟩
 grind [lA]
theorem bc.mQ {W:List Nat} {t t':PT J} {a b c d:Nat} (hw:(Nat.blt a 256 && (Nat.blt b 256 && (Nat.blt c 256 && Nat.blt d 256)))=true) (h:bc (a::b::c::d::W) t t'):∃m u A C,bc W ((((t.put m a).put u b).put A c).put C d) t':=by
 simp only[bA_] at hw;obtain⟨h1,E,F,h4⟩:=hw;obtain⟨m,h⟩:=h.eh h1;obtain⟨u,h⟩:=h.eh E;obtain⟨A,h⟩:=h.eh F;obtain⟨C,h⟩:=h.eh h4
 grind
theorem bc.bS {W:List Nat} {t t':PT J} {a b c d e f g i:Nat} (hw:(Nat.blt a 256 && (Nat.blt b 256 && (Nat.blt c 256 && Nat.blt d 256)))=true) (m:(Nat.blt e 256 && (Nat.blt f 256 && (Nat.blt g 256 && Nat.blt i 256)))=true) (h:bc (a::b::c::d::e::f::g::i::W) t t'):
  ∃u A C E F I K L,bc W ((((((((t.put u a).put A b).put C c).put E d).put F e).put I f).put K g).put L i) t':=by
 obtain⟨u,A,C,E,h⟩:=h.mQ hw;obtain⟨F,I,K,L,h⟩:=h.mQ m
 grind
theorem bc.nil {t t':PT J} (h:bc [] t t'):t'=t:=by
 obtain⟨s,m,l⟩:=t;obtain⟨s',m',l'⟩:=t';obtain⟨h1,h2,b⟩:=h;have:s'=s:=ja.same fun k hk=>b k hk Z
 simp_all
section
variable {P:Program} {G:Cx} {n:Nat} {t:PT J} {V:N} {Q:Ex->PT J->N->Prop}
theorem a6 {b:Code} (W:List Nat) (I:Nat->PT J->N->Prop) (j:Nat) (d:I j t V) (step:∀j t' V,bc W t t'->I j t' V->Ev P G b n t' V (wJ (fun j t'' V=>bc W t t''/\I j t'' V) j Q)):Ev P G (.loop b) n t V Q:=
 Jk (fun j t'' V=>bc W t t''/\I j t'' V) j ⟨bc.refl _ _,d⟩ fun j t' V h=>step j t' V h.1 h.2
end
theorem gM {a b:Nat}:dy (.ofNat a) (.ofNat b)=decide (a<b):=by
 show Nat.ble (Nat.succ a) b=_;rw[Bool.eq_iff_iff,nE_,decide_eq_true_iff];rfl
theorem fN {a b:Nat}:bM (.ofNat a) (.ofNat b)=decide (a=b):=by
 show Nat.beq a b=_;rw[Bool.eq_iff_iff,Nat.beq_eq,decide_eq_true_iff]
theorem aX {i:Nat} (h:i<9223372036854775807):wr .i64 (Int.add (.ofNat i) (.ofNat 1))= .ofNat (i+1):=by
 show(bif Nat.ble (i+1) 9223372036854775807 then _ else _)=_
 grind [nE_]
end Go.Ev
namespace Go.Ev
variable [Env]
section
variable {P:Program} {G:Cx} {n:Nat} {t:PT J} {V:N} {K:KP} {L:Own} {Q:Ex->PT J->N->Prop} {ops:Array Oper} {o:Oper} {i:Nat} {rc:List Nat} {l:List (Nat×List Nat)}
theorem kg {v:J} {t':PT J} {V':N} (hi:ops[i]? =some o) (hw:bF ops t o=some true) (hv:dM P G (bn G t) V o.op= .val v V') (hp:dA t n o.dst v=some t') (h:dc P G ops t' V' rc=true/\cE P G ops n l t' V' Q):cE P G ops n ((i,rc)::l) t V Q:=by
 obtain⟨hs,K,e,b,m,h1,u⟩:=h;refine⟨K,e,b,m,fun d k hk=>?_,u⟩
 show(match ops[i]? with
  | some o=>ig P G (ea P G k) false ops n o t V (fun t' V'=>bif dc P G ops t' V' rc then jF P G (ea P G k) ops n d l t' V' else .err 86)
  | none=>.err 87)=_
 grind [ig,kA]
theorem ns {t':PT J} {V':N} (hi:ops[i]? =some o) (hw:bF ops t o=some true) (hv:dM P G (bn G t) V o.op= .skip V') (hp:dA t n o.dst unit=some t') (h:dc P G ops t' V' rc=true/\cE P G ops n l t' V' Q):cE P G ops n ((i,rc)::l) t V Q:=by
 obtain⟨hs,K,e,b,m,h1,u⟩:=h;refine⟨K,e,b,m,fun d k hk=>?_,u⟩
 show(match ops[i]? with
  | some o=>ig P G (ea P G k) false ops n o t V (fun t' V'=>bif dc P G ops t' V' rc then jF P G (ea P G k) ops n d l t' V' else .err 86)
  | none=>.err 87)=_
 grind [ig,kA]
theorem aV:dc P G ops t V []=true:=rfl
theorem aZ {j:Nat} {l:List Nat} (h:jQ P G ops t V j=true) (hl:dc P G ops t V l=true):dc P G ops t V (j::l)=true:=by
 grind [dc]
theorem bh {k:Nat} {v:J} (hi:ops[i]? =some o) (hw:bF ops t o=some true) (hd:o.dst=some k) (hg:t.get k=some v) (hk:kindOf P o.op= .read) (h:dM P G (bn G t) V o.op= .val v V) (hb:dL v v=true):jQ P G ops t V i=true:=by
 have hr:eY P (bn G t) V o.op=some v:=by
  grind [dM]
 unfold jQ
 simp_all
theorem zh {k b e:Nat} {cs:List J} (hi:ops[i]? =some o) (hw:bF ops t o=some true) (hd:o.dst=some k) (hg:t.get k=some (.ptr b 0)) (hk:kindOf P o.op= .alloc) (ha:eZ P (bn G t) o.op=some (.row cs e false,.ptr)) (hm:V.m.get b=some (.row cs e false)) (hb:dL.beqL cs cs=true):jQ P G ops t V i=true:=by
 unfold jQ
 simp_all
theorem fq (k:IntKind) (n:Int):dL.lf (.int k n) (.int k n)=true:=by
 show(sQ k k && bM n n)=true;rw[dv];cases k<;>simp[sQ]
theorem IP (s:List Nat):dL.lf (.str s) (.str s)=true:=by
 show xY s s=true;rw[rz];simp
theorem bG.lf {α:Type} {K:KP} {m:Nat} {R:α->List J->Prop} {l:List α} {v:J} (h:bG K m R l v):dL.lf v v=true:=by
 rcases h with ⟨_,rfl⟩ | ⟨b,off,c,cells,e,ro,rfl,hc,_⟩
 ·rfl
 show(dL.beqP b b && Nat.beq off off && Nat.beq l.length l.length && dL.beqC c c)=true;have hp:dL.beqP b b=true:=Nat.beq_refl b
 have d:dL.beqC c c=true:=by
  rcases hc with rfl | ⟨n,rfl,_⟩
  ·exact Nat.beq_refl m
  exact Nat.beq_refl n
 simp[hp,d]
theorem lg:dL.beqL [] []=true:=rfl
theorem cZ {v:J} {vs:List J} (h:dL.lf v v=true) (hs:dL.beqL vs vs=true):dL.beqL (v::vs) (v::vs)=true:=by
 grind [dL.beqL]
theorem mJ {vs:List J} (h:dL.beqL vs vs=true):dL (.agg vs) (.agg vs)=true:=h
theorem jo {c:Bool} {t':Bool->PT J} (d:ops[i]? =some o) (hw:bF ops t o=some true) (hv:dM P G (bn G t) V o.op= .val (.bool c) V) (hp:∀b,dA t n o.dst (.bool b)=some (t' b))
  (h1:c=true->cE P G ops n l (t' true) V Q) (h0:c=false->cE P G ops n l (t' false) V Q):cE P G ops n ((i,[])::l) t V Q:=by
 refine aj d hw hv (hp c) ?_;cases c with
 | true=>exact h1 Z
 | false=>exact h0 Z
theorem Gk (m:St V K L) {ob:cu} {t':Nat->PT J} (d:ops[i]? =some o) (hw:bF ops t o=some true) (hv:dM P G (bn G t) V o.op= .val (.ptr V.next 0) (V.alloc ob)) (hp:∀b,dA t n o.dst (.ptr b 0)=some (t' b))
  (h:∀(V':N) (b:Nat),St V' K ((b,ob)::L)->cE P G ops n l (t' b) V' Q):cE P G ops n ((i,[])::l) t V Q:=
 aj d hw hv (hp _) (h _ _<|m.alloc ob)
theorem lJ (m:St V K L) {ob:cu} {k c:Nat} {t':Nat->PT J} (d:ops[i]? =some o) (hw:bF ops t o=some true) (hv:dM P G (bn G t) V o.op= .val (.slice V.next 0 k (.known c)) (V.alloc ob)) (hp:∀b,dA t n o.dst (.slice b 0 k (.known c))=some (t' b))
  (h:∀(V':N) (b:Nat),St V' K ((b,ob)::L)->cE P G ops n l (t' b) V' Q):cE P G ops n ((i,[])::l) t V Q:=
 aj d hw hv (hp _) (h _ _<|m.alloc ob)
theorem tI {b:Nat} {ob ob':cu} {t':PT J} (m:St V K ((b,ob)::L)) (d:ops[i]? =some o) (hw:bF ops t o=some true) (hv:dM P G (bn G t) V o.op= .skip (V.setObj b ob')) (hp:dA t n o.dst unit=some t')
  (h:∀V',St V' K ((b,ob')::L)->(dc P G ops t' V' rc=true/\cE P G ops n l t' V' Q)):cE P G ops n ((i,rc)::l) t V Q:=ns d hw hv hp (h _<|m.tO ob')
theorem OU {b:Nat} {ob ob':cu} {x:Nat×cu} {t':PT J} (m:St V K (x::(b,ob)::L)) (d:ops[i]? =some o) (hw:bF ops t o=some true) (hv:dM P G (bn G t) V o.op= .skip (V.setObj b ob')) (hp:dA t n o.dst unit=some t')
  (h:∀V',St V' K (x::(b,ob')::L)->(dc P G ops t' V' rc=true/\cE P G ops n l t' V' Q)):cE P G ops n ((i,rc)::l) t V Q:=ns d hw hv hp (h _<|m.KI ob')
theorem bV {α:Type} {m:Nat} {R:α->List J->Prop} {la:List α} {v:J} {ix:Nat} {x:α} {ty e:TypeId} {xo io:Operand} {k:IntKind} {t':J->PT J} (C:bG K m R la v) (hi:la[ix]? =some x) (d:ops[i]? =some o) (hw:bF ops t o=some true) (E:o.op= .indexAddr ty xo io)
  (F:P.underlying ty=some (.slice e)) (hj:(P.info? e).map (·.size)=some m) (hx:bn G t xo=some v) (u:bn G t io=some (.int k (.ofNat ix))) (hp:∀p,dA t n o.dst p=some (t' p))
  (h:∀p vs,dz K p vs->vs.length=m->R x vs->cE P G ops n l (t' p) V Q):cE P G ops n ((i,[])::l) t V Q:=by
 obtain⟨b,off,c,vs,rfl,A,h1,I,M⟩:=C.at hi;refine aj d hw ?_ (hp _)<|h _ vs h1 I M;rw[E];exact iY F hj hx u A
theorem mX {p:J} {vs:List J} {s:TypeId} {xo:Operand} {fi k:Nat} {t':J->PT J} (d:dz K p vs) (m:ops[i]? =some o) (hw:bF ops t o=some true) (u:o.op= .fieldAddr s xo fi) (hx:bn G t xo=some p) (hk:mR P s fi=some k) (hl:k<=vs.length) (hp:∀p,dA t n o.dst p=some (t' p))
  (h:∀p',dz K p' (vs.drop k)->cE P G ops n l (t' p') V Q):cE P G ops n ((i,[])::l) t V Q:=by
 obtain⟨b,off,cells,e,ro,rfl,A,h3,h4⟩:=d;refine aj m hw ?_ (hp _)<|h _ ⟨b,off+k,cells,e,ro,Z,A,by grind,?_⟩
 ·rw[u];exact az hx hk
 grind [List.drop_take,List.drop_drop]
theorem eW {f:Nat} {args:List J} {t':J->PT J} {R:J->N->Prop} (b:ops[i]? =some o) (hw:bF ops t o=some true) (hv:dM P G (bn G t) V o.op= .enter f args V) (hp:∀v,dA t n o.dst v=some (t' v))
  (hc:aW P G f args V R) (h:∀v V',R v V'->(dc P G ops (t' v) V' rc=true/\cE P G ops n l (t' v) V' Q)):cE P G ops n ((i,rc)::l) t V Q:=by
 refine BQ b hw hv<|hc.mono fun v V' hr=>?_
 simp_all
theorem dZ {f:Nat} {args:List J} {u:J} {t':J->PT J} (b:ops[i]? =some o) (hw:bF ops t o=some true) (hv:dM P G (bn G t) V o.op= .enter f args V) (hp:∀v,dA t n o.dst v=some (t' v))
  (hc:aW P G f args V fun v V'=>v=u/\St V' K L) (h:∀V',St V' K L->(dc P G ops (t' u) V' rc=true/\cE P G ops n l (t' u) V' Q)):cE P G ops n ((i,rc)::l) t V Q:=
 eW b hw hv hp hc fun v V' ⟨hv,aq⟩=>by simp_all
theorem aU {id:Nat} {l:List (Nat×List Nat)} (hf:te P ops=true) (hl:km P ops=l) (h:cE P G ops n l t V Q):Ev P G (.region id ops true) n t V Q:=by
 subst hl;exact vZ hf h
end
end Go.Ev
namespace Go.Ev
variable [Env]
section
variable {P:Program} {G:Cx} {n:Nat} {t:PT J} {V:N} {Q:Ex->PT J->N->Prop} {ops:Array Oper} {o:Oper} {l:List Oper}
end
section
variable {P:Program} {G:Cx} {n:Nat} {V:N} {Q:Ex->PT J->N->Prop} {ops:Array Oper}
def EZ (n:Nat) (t:PT J) (d:Option Nat) (v:Option J):Option (PT J):=match v with | some v=>dA t n d v | none=>none
def IS (P:Program) (k:Bool) (o:BinOp) (ty:TypeId) (a b:Option J):Option J:=match a with | some a=>(match b with | some b=>q8 P k o ty a b | none=>none) | none=>none
def CJ (c a b:Option J):Option J:=match c with | some (.bool q)=>if q then a else b | _=>none
def OQ (P:Program) (G:Cx) (t:PT J) (op:Op):Option J:=
 match op with
 | .move x=>bn G t x
 | .assign x=>bn G t x
 | .pick c a b=>CJ (bn G t c) (bn G t a) (bn G t b)
 | .binOp o ty x y _=>IS P (yQ x || yQ y) o ty (bn G t x) (bn G t y)
 | .extract x i=>du P (bn G t) (.extract x i)
 | .makeFunc x y z=>du P (bn G t) (.makeFunc x y z)
 | .unOp x y z=>du P (bn G t) (.unOp x y z)
 | .field x y z=>du P (bn G t) (.field x y z)
 | _=>none
theorem wS {t:PT J} {op:Op} {v:J} (h:OQ P G t op=some v):dM P G (bn G t) V op= .val v V:=by
 unfold OQ at h;split at h
 ·exact D h
 ·exact ak h
 ·unfold CJ at h;split at h
  ·rename_i q hc;exact aJ hc h
  cases h
 ·unfold IS at h;split at h
  ·rename_i a d;split at h
   ·rename_i b hb;exact aC d hb h
   cases h
  cases h
 ·exact bD Z h
 ·exact bD Z h
 ·exact bD Z h
 ·exact bD Z h
 cases h
def lQ (P:Program) (G:Cx) (ops:Array Oper) (n:Nat) (t:PT J) (o:Oper):Option (PT J):=
 match bF ops t o with
 | some w=>bif w then EZ n t o.dst (OQ P G t o.op) else dA t n o.dst unit
 | none=>none
theorem sE {t t':PT J} {o:Oper} {l:List Oper} (h:lQ P G ops n t o=some t') (hh:bP P G ops n l t' V Q):bP P G ops n (o::l) t V Q:=by
 unfold lQ at h;split at h
 ·rename_i w hw;cases w with
  | true=>
   simp only[cond_true] at h;unfold EZ at h;split at h
   ·rename_i v hv;exact Y hw (wS hv) h hh
   cases h
  | false=>exact ae hw h hh
 cases h
def quick (P:Program) (G:Cx) (ops:Array Oper) (n:Nat):Nat->List Oper->PT J->Option (List Oper×PT J)
 | 0,l,t=>some (l,t)
 | k+1,l,t=>match l with
  | o::l=>match lQ P G ops n t o with
   | some t'=>quick P G ops n k l t'
   | none=>none
  | []=>none
theorem vQ (k:Nat) {l l':List Oper} {t t':PT J} (h:quick P G ops n k l t=some (l',t')) (hh:bP P G ops n l' t' V Q):bP P G ops n l t V Q:=by
 induction k generalizing l t with
 | zero=>simp only[quick,oJ_,Prod.mk.injEq] at h;obtain⟨rfl,rfl⟩:=h;exact hh
 | succ k ih=>
  unfold quick at h;split at h
  ·split at h
   ·rename_i t1 h1;exact sE h1<|ih h
   cases h
  cases h
def nD (P:Program) (G:Cx) (ops:Array Oper) (n:Nat):Nat->List (Nat×List Nat)->PT J->Option (List (Nat×List Nat)×PT J)
 | 0,l,t=>some (l,t)
 | k+1,l,t=>match l with
  | (i,[])::l=>match ops[i]? with
   | some o=>match lQ P G ops n t o with
    | some t'=>nD P G ops n k l t'
    | none=>none
   | none=>none
  | _=>none
theorem sD {t t':PT J} {i:Nat} {o:Oper} {l:List (Nat×List Nat)} (hi:ops[i]? =some o) (h:lQ P G ops n t o=some t') (hh:cE P G ops n l t' V Q):cE P G ops n ((i,[])::l) t V Q:=by
 unfold lQ at h;split at h
 ·rename_i w hw;cases w with
  | true=>
   simp only[cond_true] at h;unfold EZ at h;split at h
   ·rename_i v hv;exact aj hi hw (wS hv) h hh
   cases h
  | false=>exact aB hi hw h hh
 cases h
theorem wQ (k:Nat) {l l':List (Nat×List Nat)} {t t':PT J} (h:nD P G ops n k l t=some (l',t')) (hh:cE P G ops n l' t' V Q):cE P G ops n l t V Q:=by
 induction k generalizing l t with
 | zero=>simp only[nD,oJ_,Prod.mk.injEq] at h;obtain⟨rfl,rfl⟩:=h;exact hh
 | succ k ih=>
  unfold nD at h;split at h
  ·split at h
   ·rename_i o b;split at h
    ·rename_i t1 h1;exact sD b h1<|ih h
    cases h
   cases h
  cases h
section
variable {ev:Operand->Option J} {K:KP} {L:Own}
theorem Tl (k:Nat) {s:TypeId} {x:Operand} {i:Nat} {b:Pos} {off:Nat} (hx:ev x=some (.ptr b off)) (hk:mR P s i=some k:=by kernel_rfl):dM P G ev V (.fieldAddr s x i)= .val (.ptr b (off+k)) V:=az hx hk
theorem Tk {c:Call} {f:Operand} {g:Nat} {fi ca args:List J} (hc:c.callee= .value f) (hf:ev f=some (.func g fi ca)) (b:tb ev c.args.toList=some args) (d:qv P g=true:=by kernel_rfl):dM P G ev V (.call c)= .enter g (fi++(args++ca)) V:=aT hc hf b d
theorem Tm {t:TypeId} {x:Operand} {b:Pos} {off:Nat} {cells:List J} {e:Nat} {ro:Bool} {v:J} (hx:ev x=some (.ptr b off)) (hb:V.m.get b=some (.row cells e ro)) (hv:nth cells off=some v) (d:dN P t=some none:=by kernel_rfl):dM P G ev V (.load t x)= .val v V:=aw hx hb d hv
theorem Tn {t:TypeId} {x:Operand} {b:Pos} {off n:Nat} {cells:List J} {e:Nat} {ro:Bool} {vs:List J} (hx:ev x=some (.ptr b off)) (hb:V.m.get b=some (.row cells e ro)) (hv:(cells.drop off).take n=vs) (d:dN P t=some (some n):=by kernel_rfl) (hl:off+n<=cells.length:=by exact Nat.le_of_ble_eq_true Z):dM P G ev V (.load t x)= .val (.agg vs) V:=bp hx hb d hl hv
theorem Ts {t:TypeId} {m:Nat} {x y:Operand} {b:Pos} {off:Nat} {v:J} {cs cells cells':List J} {e:Nat} (hx:ev x=some (.ptr b off)) (hy:ev y=some v) (hc:cd v=some cs) (hb:V.m.get b=some (.row cells e false)) (hl:cs.length=m) (d:bO cs=true) (u:dB cs cells off=cells')
  (hj:(P.info? t).map (·.size)=some m:=by kernel_rfl) (hle:off+m<=cells.length:=by exact Nat.le_of_ble_eq_true Z):dM P G ev V (.store t x y)= .skip (V.setObj b (.row cells' e false)):=bg hx hy hc hb hj hl hle d u
theorem Tj {t:TypeId} {parts:Array (Nat×Operand)} {places:List (Nat×Nat)} {zero cs:List J} (hf:jA (nth places) ev parts.toList zero=some cs) (hp:placesOf P t=some places:=by kernel_rfl) (hz:(eQ P t).bind cd=some zero:=by kernel_rfl) (hu:dN P t=some (some zero.length):=by kernel_rfl) (b:(structOf P t).isSome=true:=by kernel_rfl):dM P G ev V (.build t parts)= .val (.agg cs) V:=dC hp hz hu hf b
theorem Tp {e:TypeId} {cs:List J} (hz:(eQ P e).bind cd=some cs:=by kernel_rfl) (b:qh P e=false:=by kernel_rfl):dM P G ev V (.alloc e)= .val (.ptr V.next 0) (V.alloc (.row cs e false)):=dG hz b
theorem To {α:Type} {m:Nat} {R:α->List J->Prop} {l:List α} {c:Call} {t e:TypeId} {x:Operand} {v:J} (b:bG K m R l v) (hc:c.callee= .builtin .len) (d:c.argTypes[0]? =some t) (u:c.args.toList= [x]) (hx:ev x=some v) (hu:P.underlying t=some (.slice e):=by kernel_rfl):dM P G ev V (.call c)= .val (.int .i64 (.ofNat l.length)) V:=aO b hc d u hu hx
theorem Tq {t:TypeId} {x:Operand} {p v:J} {vs:List J} (b:St V K L) (hp:dz K p vs) (hx:ev x=some p) (hv:vs[0]? =some v) (d:dN P t=some none:=by kernel_rfl):dM P G ev V (.load t x)= .val v V:=aN b hp hx d hv
theorem Tg {n:Nat} {t:PT J} {o:Oper} {l:List Oper} {α:Type} {m:Nat} {R:α->List J->Prop} {la:List α} {v:J} {i:Nat} {x:α} {ty e:TypeId} {xo io:Operand} {k:IntKind} {t':J->PT J} (d:bG K m R la v) (hi:la[i]? =some x) (hw:bF ops t o=some true) (u:o.op= .indexAddr ty xo io)
  (hx:bn G t xo=some v) (b:bn G t io=some (.int k (.ofNat i)))
  (h:∀p vs,dz K p vs->vs.length=m->R x vs->bP P G ops n l (t' p) V Q) (A:P.underlying ty=some (.slice e):=by kernel_rfl) (hj:(P.info? e).map (·.size)=some m:=by kernel_rfl) (hp:∀p,dA t n o.dst p=some (t' p):=by exact fun _=>Z):bP P G ops n (o::l) t V Q:=cm d hi hw u A hj hx b hp h
theorem Th {n i:Nat} {t:PT J} {o:Oper} {l:List (Nat×List Nat)} {α:Type} {m:Nat} {R:α->List J->Prop} {la:List α} {v:J} {ix:Nat} {x:α} {ty e:TypeId} {xo io:Operand} {k:IntKind} {t':J->PT J} (u:bG K m R la v) (hi:la[ix]? =some x) (b:ops[i]? =some o) (hw:bF ops t o=some true) (A:o.op= .indexAddr ty xo io)
  (hx:bn G t xo=some v) (d:bn G t io=some (.int k (.ofNat ix)))
  (h:∀p vs,dz K p vs->vs.length=m->R x vs->cE P G ops n l (t' p) V Q) (C:P.underlying ty=some (.slice e):=by kernel_rfl) (hj:(P.info? e).map (·.size)=some m:=by kernel_rfl) (hp:∀p,dA t n o.dst p=some (t' p):=by exact fun _=>Z):cE P G ops n ((i,[])::l) t V Q:=bV u hi b hw A C hj hx d hp h
end
theorem bc.RI {W:List Nat} {t t':PT J} {a b c d e f g i a' b' c' d' e' f' g' i':Nat} (hw:(Nat.blt a 256 && (Nat.blt b 256 && (Nat.blt c 256 && Nat.blt d 256)))=true) (m:(Nat.blt e 256 && (Nat.blt f 256 && (Nat.blt g 256 && Nat.blt i 256)))=true) (u:(Nat.blt a' 256 && (Nat.blt b' 256 && (Nat.blt c' 256 && Nat.blt d' 256)))=true) (A:(Nat.blt e' 256 && (Nat.blt f' 256 && (Nat.blt g' 256 && Nat.blt i' 256)))=true) (h:bc (a::b::c::d::e::f::g::i::a'::b'::c'::d'::e'::f'::g'::i'::W) t t'):
  ∃C E F I M R T U X u2 u3 u4 u5 u6 u7 u8,bc W ((((((((((((((((t.put C a).put E b).put F c).put I d).put M e).put R f).put T g).put U i).put X a').put u2 b').put u3 c').put u4 d').put u5 e').put u6 f').put u7 g').put u8 i') t':=by
 obtain⟨C,E,F,I,M,R,T,U,h⟩:=h.bS hw m;obtain⟨X,u2,u3,u4,u5,u6,u7,u8,h⟩:=h.bS u A;exact⟨C,E,F,I,M,R,T,U,X,u2,u3,u4,u5,u6,u7,u8,h⟩
theorem lb {a b:Nat} (h:Nat.ble a b=true):a<=b:=Nat.le_of_ble_eq_true h
theorem nT {b:Code} {t:PT J} {Q:Ex->PT J->N->Prop} (h:Ev P G b n t V Q):bP P G ops n [] t V (ew P G n b Q):=af (B h)
theorem nS {id:Nat} {os:Array Oper} {b:Code} {t:PT J} {Q:Ex->PT J->N->Prop} (hd:lD os.toList=false) (h:bP P G os n os.toList t V (ew P G n b Q)):bP P G ops n [] t V (ew P G n (.seq (.region id os false) b) Q):=af (B<|H<|ah hd h)
theorem Tr {K:KP} {L:Own} {ev:Operand->Option J} {t:TypeId} {x:Operand} {p:J} {vs:List J} {n:Nat} (b:St V K L) (hp:dz K p vs) (hx:ev x=some p) (hv:vs.length=n) (d:dN P t=some (some n):=by kernel_rfl):dM P G ev V (.load t x)= .val (.agg vs) V:=bE b hp hx d hv
theorem kv {K:KP} {L:Own} {n:Nat} {t:PT J} {o:Oper} {l:List Oper} {f:Nat} {args:List J} {u:J} {t':J->PT J} (hw:bF ops t o=some true) (hv:dM P G (bn G t) V o.op= .enter f args V)
  (hc:aW P G f args V fun v V'=>v=u/\St V' K L) (h:∀V',St V' K L->bP P G ops n l (t' u) V' Q) (hp:∀v,dA t n o.dst v=some (t' v):=by exact fun _=>Z):bP P G ops n (o::l) t V Q:=bB hw hv hp hc h
theorem kp {K:KP} {L:Own} {n:Nat} {t:PT J} {o:Oper} {l:List Oper} (d:St V K L) {ob:cu} {t':Nat->PT J} (hw:bF ops t o=some true) (hv:dM P G (bn G t) V o.op= .val (.ptr V.next 0) (V.alloc ob))
  (h:∀(V':N) (b:Nat),St V' K ((b,ob)::L)->bP P G ops n l (t' b) V' Q) (hp:∀b,dA t n o.dst (.ptr b 0)=some (t' b):=by exact fun _=>Z):bP P G ops n (o::l) t V Q:=bJ d hw hv hp h
abbrev iZ:J:=.int .i64 0
theorem oP {W:List Nat} {t t':PT J} {w:Nat} {o:Option J} (hw:(W.elem w && Nat.blt w 256)=true) (h:bc W t t'):bc W t (t'.put o w):=h.put hw
theorem oR (W:List Nat) (t:PT J):bc W t t:=.refl W t
theorem ct {α:Type} (a b:α):(bif true then a else b)=a:=rfl
theorem cf {α:Type} (a b:α):(bif false then a else b)=b:=rfl
theorem cI {a b:Int} (h:a=b):some (J.int .i64 a)=some (J.int .i64 b):=congrArg (fun z=>some (J.int .i64 z)) h
theorem cB {a b:Bool} (h:a=b):J.bool a=J.bool b:=congrArg J.bool h
theorem cJ {a b:Int} (h:a=b):J.int .i64 a=J.int .i64 b:=congrArg (J.int .i64) h
theorem St.g0 {K:KP} {L:Own} {b:Nat} {o:cu} (h:St V K ((b,o)::L)):V.m.get b=some o:=h.get 0 Z
theorem St.g1 {K:KP} {L:Own} {e:Nat×cu} {b:Nat} {o:cu} (h:St V K (e::(b,o)::L)):V.m.get b=some o:=h.get 1 Z
theorem ky {n:Nat} {t:PT J} {o:Oper} {l:List Oper} {c:Bool} {t':Bool->PT J} (hw:bF ops t o=some true) (hv:dM P G (bn G t) V o.op= .val (.bool c) V)
  (h1:c=true->bP P G ops n l (t' true) V Q) (h0:c=false->bP P G ops n l (t' false) V Q) (hp:∀b,dA t n o.dst (.bool b)=some (t' b):=by exact fun _=>Z):bP P G ops n (o::l) t V Q:=bx hw hv hp h1 h0
end
section
variable {P:Program} {G:Cx} {n:Nat} {t:PT J} {V:N} {Q:Ex->PT J->N->Prop}
def RD (W:List Nat) (t:PT J) (I:PT J->N->Prop) (e:Ex) (t':PT J) (V':N):Prop:=e= .normal/\bc W t t'/\I t' V'
theorem Q7 {a b:Code} (W:List Nat) (I:PT J->N->Prop) (h1:Ev P G a n t V (RD W t I)) (d:∀t' V',bc W t t'->I t' V'->Ev P G b n t' V' Q):Ev P G (.seq a b) n t V Q:=
 H (h1.mono fun e t' V' h=>by obtain⟨rfl,m,h4⟩:=h;exact d t' V' m h4)
end
end Go.Ev
namespace Go.Ev
variable [Env]
set_option maxRecDepth 4000
section
variable {P:Program} {G:Cx} {n:Nat} {V:N} {Q:Ex->PT J->N->Prop}
inductive Cf where
 | ops (os:Array Oper) (l:List Oper)
 | km (os:Array Oper) (l:List (Nat×List Nat))
 | code (c:Code)
 | out (e:Ex)
inductive Fm where
 | seq (b:Code)
 | da (id:Nat)
 | Rc (I:Nat->PT J->N->Prop) (j:Nat)
def QS (P:Program) (G:Cx) (n:Nat) (Q:Ex->PT J->N->Prop):List Fm->Ex->PT J->N->Prop
 | []=>Q
 | .seq b::r=>ew P G n b (QS P G n Q r)
 | .da id::r=>jI id (QS P G n Q r)
 | .Rc I j::r=>wJ I j (QS P G n Q r)
def At (P:Program) (G:Cx) (n:Nat) (V:N) (Q:Ex->PT J->N->Prop) (c:Cf) (fs:List Fm) (t:PT J):Prop:=
 match c with
 | .ops os l=>bP P G os n l t V (QS P G n Q fs)
 | .km os l=>cE P G os n l t V (QS P G n Q fs)
 | .code c=>Ev P G c n t V (QS P G n Q fs)
 | .out e=>QS P G n Q fs e t V
def Fj (P:Program) (G:Cx) (n:Nat) (c:Code) (fs:List Fm) (t:PT J):Option (Cf×List Fm×PT J):=
 match c with
 | .seq a b=>some (.code a,.seq b::fs,t)
 | .region _ os false=>bif lD os.toList then none else some (.ops os os.toList,fs,t)
 | .cond x a b=>match bn G t x with
  | some (.bool true)=>some (.code a,fs,t)
  | some (.bool false)=>some (.code b,fs,t)
  | _=>none
 | .block id b=>some (.code b,.da id::fs,t)
 | .skip=>some (.out .normal,fs,t)
 | .label _=>some (.out .normal,fs,t)
 | .exit id=>some (.out (.exit id),fs,t)
 | .ret=>some (.out .ret,fs,t)
 | _=>none
def AU (P:Program) (G:Cx) (n:Nat) (c:Cf) (fs:List Fm) (t:PT J):Option (Cf×List Fm×PT J):=
 match c with
 | .ops _ []=>some (.out .normal,fs,t)
 | .ops os (o::l)=>match lQ P G os n t o with
  | some t'=>some (.ops os l,fs,t')
  | none=>none
 | .km _ []=>some (.out .normal,fs,t)
 | .km os ((i,[])::l)=>match os[i]? with
  | some o=>match lQ P G os n t o with
   | some t'=>some (.km os l,fs,t')
   | none=>none
  | none=>none
 | .km _ ((_,_::_)::_)=>none
 | .code c=>Fj P G n c fs t
 | .out .normal=>match fs with
  | .seq b::r=>some (.code b,r,t)
  | .da _::r=>some (.out .normal,r,t)
  | _=>none
 | .out (.exit j)=>match fs with
  | .seq _::r=>some (.out (.exit j),r,t)
  | .da id::r=>bif Nat.beq j id then some (.out .normal,r,t) else some (.out (.exit j),r,t)
  | .Rc _ _::r=>some (.out (.exit j),r,t)
  | []=>none
 | .out .ret=>match fs with
  | .seq _::r=>some (.out .ret,r,t)
  | .da _::r=>some (.out .ret,r,t)
  | .Rc _ _::r=>some (.out .ret,r,t)
  | []=>none
 | .out _=>none
theorem Ia {c:Code} {c':Cf} {fs fs':List Fm} {t t':PT J} (h:Fj P G n c fs t=some (c',fs',t')) (hh:At P G n V Q c' fs' t'):Ev P G c n t V (QS P G n Q fs):=by
 unfold Fj at h;split at h
 ·cases h;exact H hh
 ·rename_i os;cases hd:lD os.toList with
  | true=>rw[hd] at h;cases h
  | false=>rw[hd] at h;cases h;exact ah hd hh
 ·split at h
  ·rename_i hx;cases h;exact bj hx hh
  ·rename_i hx;cases h;exact bz hx hh
  cases h
 ·cases h;exact aI hh
 ·cases h;exact aG hh
 ·cases h;exact Jj hh
 ·cases h;exact ba hh
 ·cases h;exact aF hh
 cases h
theorem zg {c c':Cf} {fs fs':List Fm} {t t':PT J} (h:AU P G n c fs t=some (c',fs',t')) (hh:At P G n V Q c' fs' t'):At P G n V Q c fs t:=by
 unfold AU at h;split at h
 ·cases h;exact af hh
 ·split at h
  ·rename_i b;cases h;exact sE b hh
  cases h
 ·cases h;exact a8 hh
 ·split at h
  ·rename_i d;split at h
   ·rename_i b;cases h;exact sD d b hh
   cases h
  cases h
 ·cases h
 ·exact Ia h hh
 ·split at h
  ·cases h;exact hh
  ·cases h;exact hh
  cases h
 ·rename_i j;split at h
  ·cases h;exact hh
  ·rename_i id r;cases hj:Nat.beq j id with
   | true=>
    rw[hj] at h;cases h;have:=nB hj;subst this;exact aM hh
   | false=>rw[hj] at h;cases h;exact zR hj hh
  ·cases h;exact hh
  cases h
 ·split at h
  ·cases h;exact hh
  ·cases h;exact hh
  ·cases h;exact hh
  cases h
 cases h
def kC (P:Program) (G:Cx) (n:Nat):Nat->Cf->List Fm->PT J->Option (Cf×List Fm×PT J)
 | 0,c,fs,t=>some (c,fs,t)
 | k+1,c,fs,t=>match AU P G n c fs t with
  | some (c',fs',t')=>kC P G n k c' fs' t'
  | none=>none
theorem eD:∀(k:Nat) {c c':Cf} {fs fs':List Fm} {t t':PT J},kC P G n k c fs t=some (c',fs',t')->At P G n V Q c' fs' t'->At P G n V Q c fs t
 | 0,_,_,_,_,_,_,h,hh=>by cases h;exact hh
 | k+1,_,_,_,_,_,_,h,hh=>by
  unfold kC at h;split at h
  ·rename_i b;exact zg b<|eD k h hh
  cases h
inductive Cd where
 | fa (s i k:Nat)
 | ag (t:Nat)
def nZ (P:Program):List Cd->Bool
 | []=>true
 | .fa s i k::r=>match mR P s i with
  | some q=>bif Nat.beq q k then nZ P r else false
  | none=>false
 | .ag t::r=>match dN P t with
  | some none=>nZ P r
  | _=>false
def P9 (P:Program) (G:Cx) (n:Nat) (os:Array Oper) (t:PT J) (o:Oper) (s i k:Nat) (x:Operand):Option (PT J):=
 match bF os t o with
 | some true=>match bn G t x with
  | some (.ptr b off)=>dA t n o.dst (.ptr b (off+k))
  | _=>none
 | _=>none
def Qo (P:Program) (G:Cx) (n:Nat) (os:Array Oper) (t:PT J) (o:Oper) (x:Operand) (b':Nat) (cells:List J):Option (PT J×Nat):=
 match bF os t o with
 | some true=>match bn G t x with
  | some (.ptr b off)=>match nth cells off with
   | some v=>match dA t n o.dst v with
    | some t'=>some (t',b)
    | none=>none
   | none=>none
  | _=>none
 | _=>none
def Re (P:Program) (G:Cx) (n:Nat) (L:Own) (os:Array Oper) (t:PT J) (o:Oper) (hs:List Nat) (cs:List Cd) (e1 e2:List Nat):Option (PT J×List Nat×List Cd×List Nat×List Nat):=
 match o.op,hs with
 | .fieldAddr s x i,k::hs=>match P9 P G n os t o s i k x with
  | some t'=>some (t',hs,.fa s i k::cs,e1,e2)
  | none=>none
 | .load ty x,k::hs=>match nth L k with
  | some (b',.row cells _ _)=>match Qo P G n os t o x b' cells with
   | some (t',b)=>some (t',hs,.ag ty::cs,b::e1,b'::e2)
   | none=>none
  | _=>none
 | _,_=>none
def Ta (o:Oper):Bool:=match o.op with
 | .fieldAddr ..=>true
 | .load ..=>true
 | _=>false
def SE (os:Array Oper) (t:PT J) (o:Oper):Bool:=match bF os t o with
 | some true=>Ta o
 | _=>false
def Qb (c:Cf) (t:PT J):Bool:=match c with
 | .ops os (o::_)=>SE os t o
 | .km os ((i,[])::_)=>match os[i]? with
  | some o=>SE os t o
  | none=>false
 | _=>false
def KY (P:Program) (G:Cx) (n:Nat) (L:Own) (c:Cf) (t:PT J) (hs:List Nat) (cs:List Cd) (e1 e2:List Nat):Option (Cf×PT J×List Nat×List Cd×List Nat×List Nat):=
 match c with
 | .ops os (o::l)=>match Re P G n L os t o hs cs e1 e2 with
  | some (t',hs,cs,e1,e2)=>some (.ops os l,t',hs,cs,e1,e2)
  | none=>none
 | .km os ((i,[])::l)=>match os[i]? with
  | some o=>match Re P G n L os t o hs cs e1 e2 with
   | some (t',hs,cs,e1,e2)=>some (.km os l,t',hs,cs,e1,e2)
   | none=>none
  | none=>none
 | _=>none
def CZ (P:Program) (G:Cx) (n:Nat) (L:Own):Nat->Cf->List Fm->PT J->List Nat->List Cd->List Nat->List Nat->Option (Cf×List Fm×PT J×List Cd×List Nat×List Nat)
 | 0,c,fs,t,_,cs,e1,e2=>some (c,fs,t,cs,e1,e2)
 | k+1,c,fs,t,hs,cs,e1,e2=>match Qb c t with
  | true=>match KY P G n L c t hs cs e1 e2 with
   | some (c',t',hs',cs',e1',e2')=>CZ P G n L k c' fs t' hs' cs' e1' e2'
   | none=>none
  | false=>match AU P G n c fs t with
   | some (c',fs',t')=>CZ P G n L k c' fs' t' hs cs e1 e2
   | none=>none
theorem L6 {s i k:Nat} {r:List Cd} (h:nZ P (.fa s i k::r)=true):mR P s i=some k/\nZ P r=true:=by
 unfold nZ at h;split at h
 ·rename_i q hq;cases hk:Nat.beq q k with
  | true=>rw[hk] at h;exact⟨by rw[hq,nB hk],h⟩
  | false=>rw[hk] at h;cases h
 cases h
theorem L5 {t:Nat} {r:List Cd} (h:nZ P (.ag t::r)=true):dN P t=some none/\nZ P r=true:=by
 unfold nZ at h;split at h
 ·rename_i b;exact⟨b,h⟩
 cases h
theorem Kd {K:KP} {L:Own} (aq:St V K L) {os:Array Oper} {t t':PT J} {o:Oper} {I u:List Nat} {cs cs':List Cd} {e1 e2 d m:List Nat} (h:Re P G n L os t o I cs e1 e2=some (t',u,cs',d,m)) (hc:nZ P cs'=true) (he:d=m):
  (nZ P cs=true/\e1=e2)/\bF os t o=some true/\∃v,dM P G (bn G t) V o.op= .val v V/\dA t n o.dst v=some t':=by
 unfold Re at h;split at h
 ·rename_i s x i k A C;split at h
  ·rename_i M hf;cases h;obtain⟨h1,E⟩:=L6 hc;unfold P9 at hf;split at hf
   ·rename_i hw;split at hf
    ·rename_i b off hx;exact⟨⟨E,he⟩,hw,_,by rw[C];exact az hx h1,hf⟩
    cases hf
   cases hf
  cases h
 ·rename_i ty x k A C;split at h
  ·rename_i b' cells ee ro F;split at h
   ·rename_i M b hf;cases h;obtain⟨h1,E⟩:=L5 hc;have hb:b=b':=(List.cons.inj he).1;have he':=(List.cons.inj he).2;unfold Qo at hf;split at hf
    ·rename_i hw;split at hf
     ·rename_i b2 off hx;split at hf
      ·rename_i v hv;split at hf
       ·rename_i t2 hp;cases hf;subst hb;rw[eU] at F;exact⟨⟨E,he'⟩,hw,v,by rw[C];exact aw hx (aq.get k F) h1 hv,hp⟩
       cases hf
      cases hf
     cases hf
    cases hf
   cases h
  cases h
 cases h
theorem KZ {K:KP} {L:Own} (aq:St V K L) {c c':Cf} {fs:List Fm} {t t':PT J} {u m:List Nat} {cs cs':List Cd} {e1 e2 b d:List Nat} (h:KY P G n L c t u cs e1 e2=some (c',t',m,cs',b,d)) (hk:nZ P cs'=true) (he:b=d) (hh:At P G n V Q c' fs t'):(nZ P cs=true/\e1=e2)/\At P G n V Q c fs t:=by
 unfold KY at h;split at h
 ·split at h
  ·rename_i hy;cases h;obtain⟨h1,hw,v,hv,hp⟩:=Kd aq hy hk he;exact⟨h1,Y hw hv hp hh⟩
  cases h
 ·split at h
  ·rename_i o A;split at h
   ·rename_i hy;cases h;obtain⟨h1,hw,v,hv,hp⟩:=Kd aq hy hk he;exact⟨h1,aj A hw hv hp hh⟩
   cases h
  cases h
 cases h
theorem qg {K:KP} {L:Own} (aq:St V K L):∀(k:Nat) {c c':Cf} {fs fs':List Fm} {t t':PT J} {b:List Nat} {cs cs':List Cd} {e1 e2 d m:List Nat},CZ P G n L k c fs t b cs e1 e2=some (c',fs',t',cs',d,m)->nZ P cs'=true->d=m->At P G n V Q c' fs' t'->(nZ P cs=true/\e1=e2)/\At P G n V Q c fs t
 | 0,_,_,_,_,_,_,_,_,_,_,_,_,_,h,hk,he,hh=>by cases h;exact⟨⟨hk,he⟩,hh⟩
 | k+1,_,_,_,_,_,_,_,_,_,_,_,_,_,h,hk,he,hh=>by
  unfold CZ at h;split at h
  ·split at h
   ·rename_i b;obtain⟨⟨h1,A⟩,u⟩:=qg aq k h hk he hh;exact KZ aq b h1 A u
   cases h
  split at h
  ·rename_i b;obtain⟨h1,u⟩:=qg aq k h hk he hh;exact⟨h1,zg b u⟩
  cases h
end
theorem bc.RH {W:List Nat} {t t':PT J} {w:Nat} (hw:Nat.blt w 256=true) (h:bc (w::W) t t'):bc W (t.put (t'.get w) w) t':=by
 rw[uZ] at hw;obtain⟨h1,b,d⟩:=h;obtain⟨s,m,l⟩:=t;rw[PT.ss _ _ _ _ hw,PT.oI _ hw];refine⟨h1,b,fun k hk u=>?_⟩;show _=jz (oY s w _) k;rw[lA _ _ _ _ hw hk];split
 ·rename_i e;rw[e]
 rename_i e;refine d k hk ?_;rw[List.elem_cons,u];have:(k == w)=false:=by simpa using e
 rw[this]
def qO (o:Nat->Option J):PT J->List Nat->PT J
 | t,[]=>t
 | t,a::r=>qO o (t.put (o a) a) r
def yd (o:Nat->Option J):List (Nat×J)->Nat->Option J
 | [],a=>o a
 | (k,v)::r,a=>bif Nat.beq a k then some v else yd o r a
theorem zo {o:Nat->Option J}:∀{ks:List (Nat×J)},(∀e∈ks,o e.1=some e.2)->yd o ks=o
 | [],_=>rfl
 | (k,v)::r,h=>funext fun a=>by
  show(bif Nat.beq a k then some v else yd o r a)=o a;cases hb:Nat.beq a k with
  | true=>rw[nB hb];exact(h (k,v) (.head _)).symm
  | false=>rw[zo fun e he=>h e (.tail _ he)];rfl
def okW (W:List Nat):Bool:=W.all fun k=>Nat.blt k 256
theorem bc.fn {t':PT J}:∀{W:List Nat} {t:PT J},okW W=true->bc W t t'->t'=qO (fun k=>t'.get k) t W
 | [],_,_,h=>h.nil
 | a::r,t,hw,h=>by
  have hw:(Nat.blt a 256 && okW r)=true:=hw;rw[bA_] at hw;exact(bc.fn (W:=r) hw.2 (h.RH hw.1):)
section
variable {W:List Nat} {t t':PT J}
theorem bc.qs {ks:List (Nat×J)} (h:bc W t t') (hk:∀e∈ks,t'.get e.1=some e.2) (hw:okW W=true):∃o,t'=qO (yd o ks) t W:=
 ⟨fun k=>t'.get k,(bc.fn hw h).trans<|congrArg (fun o=>qO o t W) (zo hk).symm⟩
variable {k1 k2 k3 k4 k5 k6:Nat} {v1 v2 v3 v4 v5 v6:J} (h:bc W t t')
include h
theorem bc.q0 (hw:okW W=true):∃o,t'=qO (yd o []) t W:=h.qs (ks:=[]) (fun e he=>by cases he) hw
theorem bc.q1 (h1:t'.get k1=some v1) (hw:okW W=true):∃o,t'=qO (yd o [(k1,v1)]) t W:=h.qs (fun e he=>by simp at he;subst he;exact h1) hw
theorem bc.q2 (h1:t'.get k1=some v1) (b:t'.get k2=some v2) (hw:okW W=true):∃o,t'=qO (yd o [(k1,v1),(k2,v2)]) t W:=h.qs (fun e he=>by simp at he;rcases he with rfl | rfl;exact h1;exact b) hw
theorem bc.q3 (h1:t'.get k1=some v1) (b:t'.get k2=some v2) (d:t'.get k3=some v3) (hw:okW W=true):∃o,t'=qO (yd o [(k1,v1),(k2,v2),(k3,v3)]) t W:=h.qs (fun e he=>by simp at he;rcases he with rfl | rfl | rfl;exact h1;exact b;exact d) hw
theorem bc.q4 (h1:t'.get k1=some v1) (b:t'.get k2=some v2) (d:t'.get k3=some v3) (h4:t'.get k4=some v4) (hw:okW W=true):∃o,t'=qO (yd o [(k1,v1),(k2,v2),(k3,v3),(k4,v4)]) t W:=h.qs (fun e he=>by simp at he;rcases he with rfl | rfl | rfl | rfl;exact h1;exact b;exact d;exact h4) hw
theorem bc.q5 (h1:t'.get k1=some v1) (b:t'.get k2=some v2) (d:t'.get k3=some v3) (h4:t'.get k4=some v4) (h5:t'.get k5=some v5) (hw:okW W=true):∃o,t'=qO (yd o [(k1,v1),(k2,v2),(k3,v3),(k4,v4),(k5,v5)]) t W:=h.qs (fun e he=>by simp at he;rcases he with rfl | rfl | rfl | rfl | rfl;exact h1;exact b;exact d;exact h4;exact h5) hw
end
theorem oF {W:List Nat} {t t':PT J} (h:bc W t t':=by repeat (first | with_reducible exact bc.refl _ _ | refine bc.put Z ?_)):bc W t t':=h
def Oo (i:Nat) (t:PT J):List J->PT J
 | []=>t
 | a::r=>Oo (i+1) (t.put (some a) i) r
theorem SC {P:Program} {G:Cx} (b:Plain G) {f:Nat} {fn:Func} {c:Code} {args:List J} {V:N} {R:J->N->Prop} (hf:P.funcs[f]? =some fn) (hb:fn.body=some c) (h:Ev P G c fn.ntmps (Oo 0 .leaf args) V (Ek P fn R))
  (d:qA fn.ntmps args=some (Oo 0 .leaf args):=by rfl) (hk:Nat.beq f JF=false:=by rfl) (hl:HJ f=false:=by rfl) (m:H7 f=false:=by rfl):aW P G f args V R:=aY b hf hb d h hk hl m
def zp:List Nat->List (Nat×List Nat)
 | []=>[]
 | a::r=>(a,[])::zp r
def rg (a:Nat):Nat->List Nat
 | 0=>[]
 | n+1=>a::rg (a+1) n
end Go.Ev
namespace Go.Ev
variable [Env]
section
variable {P:Program} {G:Cx} {n:Nat} {V:N} {Q:Ex->PT J->N->Prop} {os os2:Array Oper} {l l2:List Oper} {lp lp2:List (Nat×List Nat)} {c c2:Code} {t t2:PT J} {K:KP} {L:Own} {hs:List Nat} {cs:List Cd} {e1 e2:List Nat}
theorem Rg {b:Code} {d:Nat} (k:Nat) (h:kC P G n k (.code c) [] t=some (.code c2,[.da d,.seq b],t2)) (hh:Ev P G c2 n t2 V (jI d<|ew P G n b Q)):Ev P G c n t V Q:=(eD (Q:=Q) k h hh:)
theorem R4 {b:Code} (k:Nat) (h:kC P G n k (.code c) [] t=some (.code c2,[.seq b],t2)) (hh:Ev P G c2 n t2 V (ew P G n b Q)):Ev P G c n t V Q:=(eD (Q:=Q) k h hh:)
theorem SF (k:Nat) (h:kC P G n k (.code c) [] t=some (.out .normal,[],t2)) (hh:Q .normal t2 V):Ev P G c n t V Q:=(eD (Q:=Q) k h hh:)
theorem R5 {b:Code} (k:Nat) (h:kC P G n k (.code c) [] t=some (.ops os2 l2,[.seq b],t2)) (hh:bP P G os2 n l2 t2 V (ew P G n b Q)):Ev P G c n t V Q:=(eD (Q:=Q) k h hh:)
theorem Rh {b d:Code} (k:Nat) (h:kC P G n k (.code c) [] t=some (.ops os2 l2,[.seq b,.seq d],t2)) (hh:bP P G os2 n l2 t2 V (ew P G n b<|ew P G n d Q)):Ev P G c n t V Q:=(eD (Q:=Q) k h hh:)
theorem SG (k:Nat) (h:kC P G n k (.code c) [] t=some (.out .ret,[],t2)) (hh:Q .ret t2 V):Ev P G c n t V Q:=(eD (Q:=Q) k h hh:)
theorem Qy {b:Code} {d:Code} {m:Nat} (k:Nat) (h:kC P G n k (.code c) [.seq b] t=some (.code c2,[.da m,.seq d],t2)) (hh:Ev P G c2 n t2 V (jI m<|ew P G n d Q)):Ev P G c n t V (ew P G n b Q):=(eD (Q:=Q) k h hh:)
theorem PK {b:Code} {d m:Code} {u:Nat} (k:Nat) (h:kC P G n k (.code c) [.seq b] t=some (.code c2,[.seq d,.da u,.seq m],t2)) (hh:Ev P G c2 n t2 V (ew P G n d<|jI u<|ew P G n m Q)):Ev P G c n t V (ew P G n b Q):=(eD (Q:=Q) k h hh:)
theorem PL {b:Code} {d m:Code} {u:Nat} (k:Nat) (h:kC P G n k (.code c) [.seq b] t=some (.ops os2 l2,[.seq d,.da u,.seq m],t2)) (hh:bP P G os2 n l2 t2 V (ew P G n d<|jI u<|ew P G n m Q)):Ev P G c n t V (ew P G n b Q):=(eD (Q:=Q) k h hh:)
theorem R6 {b:Code} (k:Nat) (h:kC P G n k (.code c) [.seq b] t=some (.out .ret,[],t2)) (hh:Q .ret t2 V):Ev P G c n t V (ew P G n b Q):=(eD (Q:=Q) k h hh:)
theorem Ri {b:Code} {d:Nat} {bI1:Nat->PT J->N->Prop} {j:Nat} (k:Nat) (h:kC P G n k (.code c) [.seq b,.Rc bI1 d] t=some (.out (.exit j),[],t2)) (hh:Q (.exit j) t2 V):Ev P G c n t V (ew P G n b<|wJ bI1 d Q):=(eD (Q:=Q) k h hh:)
theorem SH (k:Nat) (h:kC P G n k (.ops os l) [] t=some (.out .normal,[],t2)) (hh:Q .normal t2 V):bP P G os n l t V Q:=(eD (Q:=Q) k h hh:)
theorem SI (k:Nat) (h:kC P G n k (.ops os l) [] t=some (.ops os2 l2,[],t2)) (hh:bP P G os2 n l2 t2 V Q):bP P G os n l t V Q:=(eD (Q:=Q) k h hh:)
theorem R7 {b:Code} (k:Nat) (h:kC P G n k (.ops os l) [.seq b] t=some (.code c2,[],t2)) (hh:Ev P G c2 n t2 V Q):bP P G os n l t V (ew P G n b Q):=(eD (Q:=Q) k h hh:)
theorem Rj {b:Code} {d:Nat} (k:Nat) (h:kC P G n k (.ops os l) [.seq b] t=some (.code c2,[.da d],t2)) (hh:Ev P G c2 n t2 V (jI d Q)):bP P G os n l t V (ew P G n b Q):=(eD (Q:=Q) k h hh:)
theorem Rk {b:Code} {d:Code} (k:Nat) (h:kC P G n k (.ops os l) [.seq b] t=some (.ops os2 l2,[.seq d],t2)) (hh:bP P G os2 n l2 t2 V (ew P G n d Q)):bP P G os n l t V (ew P G n b Q):=(eD (Q:=Q) k h hh:)
theorem Qz {b:Code} {d m:Code} (k:Nat) (h:kC P G n k (.ops os l) [.seq b] t=some (.ops os2 l2,[.seq d,.seq m],t2)) (hh:bP P G os2 n l2 t2 V (ew P G n d<|ew P G n m Q)):bP P G os n l t V (ew P G n b Q):=(eD (Q:=Q) k h hh:)
theorem R8 {b:Code} (k:Nat) (h:kC P G n k (.ops os l) [.seq b] t=some (.out .ret,[],t2)) (hh:Q .ret t2 V):bP P G os n l t V (ew P G n b Q):=(eD (Q:=Q) k h hh:)
theorem Rl {b d:Code} (k:Nat) (h:kC P G n k (.ops os l) [.seq b,.seq d] t=some (.out .ret,[],t2)) (hh:Q .ret t2 V):bP P G os n l t V (ew P G n b<|ew P G n d Q):=(eD (Q:=Q) k h hh:)
theorem Rm {b d:Code} {j:Nat} (k:Nat) (h:kC P G n k (.ops os l) [.seq b,.seq d] t=some (.out (.exit j),[],t2)) (hh:Q (.exit j) t2 V):bP P G os n l t V (ew P G n b<|ew P G n d Q):=(eD (Q:=Q) k h hh:)
theorem SJ (k:Nat) (h:kC P G n k (.km os lp) [] t=some (.km os2 lp2,[],t2)) (hh:cE P G os2 n lp2 t2 V Q):cE P G os n lp t V Q:=(eD (Q:=Q) k h hh:)
theorem R9 {b:Code} (k:Nat) (h:kC P G n k (.km os lp) [.seq b] t=some (.code c2,[],t2)) (hh:Ev P G c2 n t2 V Q):cE P G os n lp t V (ew P G n b Q):=(eD (Q:=Q) k h hh:)
theorem Ro {b d:Code} (aq:St V K L) (k:Nat) (hi:List Nat) (h:CZ P G n L k (.code c) [] t hi [] [] []=some (.ops os2 l2,[.seq b,.seq d],t2,cs,e1,e2)) (he:e1=e2) (hh:bP P G os2 n l2 t2 V (ew P G n b<|ew P G n d Q)) (hc:nZ P cs=true:=by kernel_rfl):Ev P G c n t V Q:=((qg (Q:=Q) aq k h hc he hh).2:)
theorem SK (aq:St V K L) (k:Nat) (hi:List Nat) (h:CZ P G n L k (.ops os l) [] t hi [] [] []=some (.ops os2 l2,[],t2,cs,e1,e2)) (he:e1=e2) (hh:bP P G os2 n l2 t2 V Q) (hc:nZ P cs=true:=by kernel_rfl):bP P G os n l t V Q:=((qg (Q:=Q) aq k h hc he hh).2:)
theorem Sa {b:Code} (aq:St V K L) (k:Nat) (hi:List Nat) (h:CZ P G n L k (.ops os l) [.seq b] t hi [] [] []=some (.out .ret,[],t2,cs,e1,e2)) (he:e1=e2) (hh:Q .ret t2 V) (hc:nZ P cs=true:=by kernel_rfl):bP P G os n l t V (ew P G n b Q):=((qg (Q:=Q) aq k h hc he hh).2:)
theorem SN (aq:St V K L) (k:Nat) (hi:List Nat) (h:CZ P G n L k (.km os lp) [] t hi [] [] []=some (.km os2 lp2,[],t2,cs,e1,e2)) (he:e1=e2) (hh:cE P G os2 n lp2 t2 V Q) (hc:nZ P cs=true:=by kernel_rfl):cE P G os n lp t V Q:=((qg (Q:=Q) aq k h hc he hh).2:)
end
inductive XE where
 | mk (op num:Int) (name:List Nat) (kids:List XE)
structure XI where
 kind:Int
 Gx:Int
 loc:Int
 order:Int
 to:Int
 exprs:List XE
structure XC where
 dT:Int
 ins:List XI
def gY (K:KP):Nat->XE->List J->Prop
 | 0,_,_=>False
 | k+1,.mk op num name kids,vs=>∃v,vs= [.int .i64 op,.int .i64 num,.str name,v]/\bG K 4 (gY K k) kids v
def rO (K:KP) (k:Nat) (x:XI) (vs:List J):Prop:=∃v,vs= [.int .i64 x.kind,.int .i64 x.Gx,.int .i64 x.loc,.int .i64 x.order,.int .i64 x.to,v]/\bG K 4 (gY K k) x.exprs v
def gf (K:KP) (k:Nat) (x:XC) (vs:List J):Prop:=∃v,vs= [.int .i64 x.dT,v]/\bG K 6 (rO K k) x.ins v
def XE.kids:XE->List XE
 | .mk _ _ _ k=>k
theorem gY.shape {K:KP} {k:Nat} {x:XE} {vs:List J} (h:gY K k x vs):∃op num name v,vs= [.int .i64 op,.int .i64 num,.str name,v]/\bG K 4 (gY K (k-1)) x.kids v:=by
 cases k with
 | zero=>cases x;exact h.elim
 | succ k=>
  obtain⟨op,num,name,kids⟩:=x;obtain⟨v,rfl,hk⟩:=h;exact⟨_,_,_,v,Z,hk⟩
open Classical in
def bW {α:Type} (a b:α):Bool:=decide (a=b)
theorem bR {α:Type} {a b:α}:bW a b=true↔a=b:=by unfold bW;simp
theorem kq {α:Type} {a b:α}:bW a b=false↔a≠b:=by unfold bW;simp
theorem bL {c:Bool} (h:(bif c then false else true)=true):c=false:=by cases c<;>simp_all
theorem a7 {c:Bool} (h:(bif c then false else true)=false):c=true:=by cases c<;>simp_all
theorem jW {b d m u:Int} {A C:List Nat} {E F:List XE}:bW (XE.mk b d A E) (XE.mk m u C F)=(bM b m && (bM d u && (xY A C && bW E F))):=by
 rw[dv,dv,rz,Bool.eq_iff_iff,bR];simp[bR]
theorem gp {a b:XI}:bW a b=(bM a.kind b.kind && (bM a.Gx b.Gx && (bM a.loc b.loc && (bM a.order b.order && (bM a.to b.to && bW a.exprs b.exprs))))):=by
 rw[dv,dv,dv,dv,dv,Bool.eq_iff_iff,bR];cases a;cases b;simp[bR]
theorem iw {a b:XC}:bW a b=(bM a.dT b.dT && bW a.ins b.ins):=by
 rw[dv,Bool.eq_iff_iff,bR];cases a;cases b;simp[bR]
theorem dE {α:Type} {l1 l2:List α} (h:bM (.ofNat l1.length) (.ofNat l2.length)=false):bW l1 l2=false:=by
 rw[kq];rintro rfl;rw[dv] at h;simp at h
theorem cN {α β:Type} {l1:List α} {l2:List β} (h:bM (.ofNat l1.length) (.ofNat l2.length)=true):l1.length=l2.length:=by
 rw[dv] at h
 grind
theorem dw {α:Type} {l1 l2:List α} {i:Nat} {x y:α} (hx:l1[i]? =some x) (hy:l2[i]? =some y) (h:bW x y=false):bW l1 l2=false:=by
 rw[kq] at h⊢
 grind
theorem dh {α:Type} {l1 l2:List α} {i:Nat} (hl:l1.length=l2.length) (hi:l1.length<=i) (h:∀k,k<i->l1[k]? =l2[k]?):bW l1 l2=true:=by
 rw[bR];refine List.ext_getElem? fun k=>?_
 grind
theorem fo {α:Type} {l1 l2:List α} {i:Nat} {x y:α} (h:∀k,k<i->l1[k]? =l2[k]?) (hx:l1[i]? =some x) (hy:l2[i]? =some y) (hs:bW x y=true):∀k,k<i+1->l1[k]? =l2[k]?:=fun k hk=>by
 grind [bR]
theorem bC {a b:Nat} (h:dy (.ofNat a) (.ofNat b)=false):b<=a:=by
 grind [eM]
theorem aS {a b:Nat} (h:dy (.ofNat a) (.ofNat b)=true):a<b:=by
 rw[eM,decide_eq_true_iff] at h
 simp_all
theorem bZ {α:Type} {l:List α} {i:Nat} (h:i<l.length):∃x,l[i]? =some x:=⟨l[i],gC h⟩
def uk (f:XE->Int->Int):List XE->Int->Int
 | [],m=>m
 | x::r,m=>bif dy m 0 then m else uk f r (f x m)
def NU (name:List Nat) (left:Int):Int:=wr .i64 (Int.sub (wr .i64<|Int.sub left 1)<|wr .i64<|Int.tdiv (.ofNat<|di name) 20)
def Ca:Nat->XE->Int->Int
 | 0,_,m=>m
 | k+1,.mk _ _ name kids,m=>uk (Ca k) kids (NU name m)
def EF (k:Nat) (x:XE) (most:Int):Bool:=bif dy (Ca k x most) 0 then false else true
def wF (k:Nat) (x:XI):Bool:=bif dy 4 (.ofNat x.exprs.length) then false else x.exprs.all fun e=>EF k e 60
def rE (k:Nat) (most:Int) (x:XC):Bool:=bif dy most (.ofNat x.ins.length) then false else x.ins.all (wF k)
def vi (k:Nat) (most:Int) (l:List XC):Bool:=(l.take 6).all (rE k most) && (bif dy 6 (.ofNat l.length) then false else true)
theorem Hx {f:XE->Int->Int} {l:List XE} {i:Nat} {m:Int} (h:l.length<=i):uk f (l.drop i) m=m:=by rw[List.drop_eq_nil_of_le h];rfl
theorem Hw {f:XE->Int->Int} {l:List XE} {m:Int} (h:dy m 0=true):uk f l m=m:=by
 cases l with
 | nil=>rfl
 | cons x r=>show(bif dy m 0 then m else _)=m;rw[h];rfl
theorem Ey {f:XE->Int->Int} {l:List XE} {i:Nat} {m:Int} {x:XE} (hx:l[i]? =some x) (h:dy m 0=false):uk f (l.drop i) m=uk f (l.drop (i+1)) (f x m):=by
 have b:i<l.length:=(gA.1 hx).1;rw[List.drop_eq_getElem_cons b];have:l[i]=x:=(gA.1 hx).2;rw[this];show(bif dy m 0 then m else _)=_;rw[h];rfl
theorem zJ {α:Type} {f:α->Bool} {l:List α} {i:Nat} {x:α} (hx:l[i]? =some x) (h:f x=false):l.all f=false:=by
 grind
theorem LV {α:Type} {f:α->Bool} {l:List α} {i n:Nat} {x:α} (hx:l[i]? =some x) (hi:i<n) (h:f x=false):(l.take n).all f=false:=zJ (i:=i) (by simp_all) h
theorem vE {α:Type} {f:α->Bool} {l:List α} {i:Nat} {x:α} (b:(l.take i).all f=true) (hx:l[i]? =some x) (h:f x=true):(l.take (i+1)).all f=true:=by
 rw[List.take_add_one,hx,List.all_append,b];simp[h]
theorem zK {α:Type} {f:α->Bool} {l:List α} {i:Nat} (b:(l.take i).all f=true) (h:l.length<=i):l.all f=true:=by
 rw[tL_ h] at b;exact b
theorem Br {α:Type} {f:α->Bool} {l:List α} {i n:Nat} (b:(l.take i).all f=true) (h:n<=i):(l.take n).all f=true:=by
 rw[aE_] at b⊢
 exact fun x hx=>b x (by
  obtain⟨j,hj⟩:=gO_ hx;rw[List.getElem?_take] at hj;split at hj
  ·exact gB_ (i:=j) (by grind)
  cases hj)
theorem gY.beq {K:KP} {k:Nat} {x:XE} {vs:List J} (h:gY K k x vs):dL (.agg vs) (.agg vs)=true:=by
 cases k with
 | zero=>cases x;exact h.elim
 | succ k=>
  obtain⟨op,num,name,kids⟩:=x;obtain⟨v,rfl,hk⟩:=h;exact mJ<|cZ (fq _ _)<|cZ (fq _ _)<|cZ (IP _)<|cZ hk.lf lg
theorem rO.beq {K:KP} {k:Nat} {x:XI} {vs:List J} (h:rO K k x vs):dL (.agg vs) (.agg vs)=true:=by
 obtain⟨v,rfl,hk⟩:=h;exact mJ<|cZ (fq _ _)<|cZ (fq _ _)<|cZ (fq _ _)<|cZ (fq _ _)<|cZ (fq _ _)<|cZ hk.lf lg
theorem gf.beq {K:KP} {k:Nat} {x:XC} {vs:List J} (h:gf K k x vs):dL (.agg vs) (.agg vs)=true:=by
 obtain⟨v,rfl,hk⟩:=h;exact mJ<|cZ (fq _ _)<|cZ hk.lf lg
theorem cL {α:Type} {l:List α} {i:Nat} (h:dy (.ofNat i) (.ofNat l.length)=true):∃x,l[i]? =some x/\i<l.length:=by
 rw[eM,decide_eq_true_iff] at h
 simp_all
end Go.Ev
namespace Go.Ev
variable [Env]
def cH (n:Int) (vs:List J):Prop:=vs= [.int .i64 n]
def RL {α:Type} (K:KP) (m:Nat) (R:α->List J->Prop) (l:List α) (vs:List J):Prop:=∃v,vs= [v]/\bG K m R l v
theorem mP {a b:Int}:bM a b=bW a b:=by rw[dv,Bool.eq_iff_iff,decide_eq_true_iff,bR]
theorem IM {α:Type} {f:α->Bool} {l:List α} {i:Nat} {x:α} (b:(l.take i).any f=false) (hx:l[i]? =some x) (h:f x=false):(l.take (i+1)).any f=false:=by
 rw[List.take_add_one,hx,List.any_append,b];simp[h]
theorem On {α:Type} {f:α->Bool} {l:List α} {i:Nat} {x:α} (hx:l[i]? =some x) (h:f x=true):l.any f=true:=by
 grind
theorem LW {α:Type} {f:α->Bool} {l:List α} {i:Nat} (b:(l.take i).any f=false) (h:l.length<=i):l.any f=false:=by
 rw[tL_ h] at b;exact b
def El (xs ys:List Int):Bool:=
 List.rec (motive:=fun _=>List Int->Bool) (fun ys=>List.rec (motive:=fun _=>Bool) true (fun _ _ _=>false) ys)
  (fun x _ ih ys=>List.rec (motive:=fun _=>Bool) false (fun y r _=>bif bM x y then ih r else false) ys) xs ys
theorem FO:∀(xs ys:List Int),El xs ys=bW xs ys
 | [],[]=>by rw[show El [] []=true from Z,eq_comm,bR]
 | [],_::_=>by rw[show El [] (_::_)=false from Z,eq_comm,kq];simp
 | _::_,[]=>by rw[show El (_::_) []=false from Z,eq_comm,kq];simp
 | x::xs,y::ys=>by
  show(bif bM x y then El xs ys else false)=_;rw[FO xs ys,dv,Bool.eq_iff_iff,bR]
  grind [bR]
def ints (xs:List Int):List J:=xs.map (.int .i64)
def JG:Option TypeDesc->Bool
 | some (.int .i64)=>true
 | _=>false
def tf (P:Program) (fs:List Field):Nat->Bool:=List.rec (motive:=fun _=>Nat->Bool) (fun _=>true) (fun f _ ih k=>JG (P.underlying f.type) && (Nat.beq f.offset k && ih (k+1))) fs
def iW (P:Program) (t:TypeId) (n:Nat):Bool:=
 match structOf P t with
 | some fs=>tf P fs.toList 0 && (Nat.beq fs.toList.length n && (!P.eqGuardType P.depth t && (!P.stoodInHeld t && kS fs.toList)))
 | none=>false
theorem qG {P:Program}:∀(fs:List Field) (k:Nat) (xs ys:List Int),tf P fs k=true->xs.length=k+fs.length->ys.length=k+fs.length->eqFields P fs (ints xs) (ints ys)=some (El (xs.drop k)<|ys.drop k)
 | [],k,xs,ys,_,h1,d=>by
  rw[List.drop_eq_nil_of_le (by simp at h1;omega),List.drop_eq_nil_of_le (by simp at d;omega)];rfl
 | f::fs,k,xs,ys,h,h1,d=>by
  have h':(JG (P.underlying f.type) && (Nat.beq f.offset k && tf P fs (k+1)))=true:=h;simp only[bA_] at h';obtain⟨e1,e2,u⟩:=h';have hk:f.offset=k:=nB e2
  have hu:P.underlying f.type=some (.int .i64):=by
   grind [JG]
  have l1:k<xs.length:=by simp at h1;omega
  have l2:k<ys.length:=by simp at d;omega
  have A:nth (ints xs) f.offset=some (.int .i64 xs[k]):=by grind [eU,ints]
  have C:nth (ints ys) f.offset=some (.int .i64 ys[k]):=by grind [eU,ints]
  have ih:=qG fs (k+1) xs ys u (by simp at h1⊢;omega) (by simp at d⊢;omega)
  show(match P.underlying f.type,nth (ints xs) f.offset,nth (ints ys) f.offset with
   | some .bool,some (.bool a),some (.bool b)=>bif (bif a then b else(bif b then false else true)) then eqFields P fs (ints xs) (ints ys) else some false
   | some (.int _),some (.int j a),some (.int k b)=>bif sQ j k then(bif bM a b then eqFields P fs (ints xs) (ints ys) else some false) else none
   | some .string,some (.str a),some (.str b)=>bif xY a b then eqFields P fs (ints xs) (ints ys) else some false
   | some (.struct gs),_,_=>_
   | some (.array m e),_,_=>_
   | _,_,_=>none)=_
  rw[hu,A,C,List.drop_eq_getElem_cons l1,List.drop_eq_getElem_cons l2,ih];show(bif bM xs[k] ys[k] then _ else some false)=some (bif bM xs[k] ys[k] then El (xs.drop (k+1)) (ys.drop (k+1)) else false)
  grind
theorem vU {P:Program} {t:TypeId} {n:Nat} {xs ys:List Int} (h:iW P t n=true) (hx:xs.length=n) (hy:ys.length=n):DA P t (.agg<|ints xs) (.agg<|ints ys)=some (bW xs ys):=by
 unfold iW at h;split at h
 ·rename_i fs b;simp only[bA_,Bool.not_eq_true'] at h;obtain⟨h1,d,m,h4,h5⟩:=h;have hn:fs.toList.length=n:=nB d;unfold DA;dsimp only;rw[b];dsimp only;rw[m,h4,h5];simp only[Bool.not_true,Bool.or_false,cond_false];rw[qG fs.toList 0 xs ys h1 oM oM,List.drop_zero,List.drop_zero,FO]
 cases h
section
variable {P:Program} {G:Cx} {ev:Operand->Option J} {V:N}
theorem Lx {t r:TypeId} {x y:Operand} {n:Nat} {ca cb:List Int} (h:iW P t n=true) (b:ca.length=n) (hb:cb.length=n) (hx:ev x=some (.agg<|ints ca)) (hy:ev y=some (.agg<|ints cb)):dM P G ev V (.binOp .eql t x y r)= .val (.bool<|bW ca cb) V:=by
 refine aC hx hy ?_;show lr P .eql t _ _=_;unfold lr;dsimp only;rw[vU h b hb]
theorem G6 {t r:TypeId} {x y:Operand} {n:Nat} {ca cb:List Int} (h:iW P t n=true) (b:ca.length=n) (hb:cb.length=n) (hx:ev x=some (.agg<|ints ca)) (hy:ev y=some (.agg<|ints cb)):dM P G ev V (.binOp .neq t x y r)= .val (.bool (bif bW ca cb then false else true)) V:=by
 refine aC hx hy ?_;show lr P .neq t _ _=_;unfold lr;dsimp only;rw[vU h b hb]
end
structure cQ where
 cq:Int
 index:Int
structure cU where
 kind:Int
 loc:Int
 order:Int
 read:Int
 write:Int
structure XG where
 init:List Int
 threads:List (List cU)
 from_:List (List cQ)
 order:List (List cQ)
def cQ.ints (x:cQ):List Int:=[x.cq,x.index]
def cU.ints (x:cU):List Int:=[x.kind,x.loc,x.order,x.read,x.write]
theorem cQ.same {x y:cQ}:bW x.ints y.ints=bW x y:=by
 rw[Bool.eq_iff_iff,bR,bR];cases x;cases y;simp[cQ.ints]
theorem cU.same {x y:cU}:bW x.ints y.ints=bW x y:=by
 rw[Bool.eq_iff_iff,bR,bR];cases x;cases y;simp[cU.ints]
def kz (x:cQ) (vs:List J):Prop:=vs=ints x.ints
def nX (x:cU) (vs:List J):Prop:=vs=ints x.ints
structure dj (K:KP) (g:XG) (a b c d:J):Prop where
 init:bG K 1 cH g.init a
 threads:bG K 1 (RL K 5 nX) g.threads b
 from_:bG K 1 (RL K 2 kz) g.from_ c
 order:bG K 1 (RL K 2 kz) g.order d
theorem mb {a b:XG}:bW a b=(bW a.init b.init && (bW a.threads b.threads && (bW a.from_ b.from_ && bW a.order b.order))):=by
 rw[Bool.eq_iff_iff,bR];cases a;cases b;simp[bR]
def dR (e:cU):Bool:=bif bM e.kind 1 then true else bM e.kind 3
def bH (e:cU):Bool:=bif bM e.kind 2 then true else bM e.kind 3
def cC (b:Bool):Bool:=bif b then false else true
def bQ (e:cU) (n:Int):Bool:=
 bif dy e.kind 1 then false else bif dy 4 e.kind then false else bif dy e.order 1 then false else bif dy 6 e.order then false else
 bif (bif (!dR e) then cC (bM e.read 0) else false) then false else bif (bif (!bH e) then cC (bM e.write 0) else false) then false else
 bif bM e.kind 4 then bM e.loc 0 else bif cC (dy e.loc 0) then dy e.loc n else false
def ez (g:XG) (id:cQ):Option cU:=
 match id.cq,id.index with
 | .ofNat 0,.ofNat i=>(g.init[i]?).map fun v=>⟨2,i,1,0,v⟩
 | .ofNat (t+1),.ofNat i=>(g.threads[t]?).bind (·[i]?)
 | _,_=>none
def vW (x:Option cU):cU:=x.getD ⟨0,0,0,0,0⟩
theorem s9 {g:XG} {th ix:Int} (h:dy th 0=true):ez g ⟨th,ix⟩=none:=by
 rw[eM,decide_eq_true_iff] at h;cases th with
 | ofNat t=>grind
 | negSucc t=>rfl
theorem pQ {g:XG} {th ix:Int} (h:dy ix 0=true):ez g ⟨th,ix⟩=none:=by
 rw[eM,decide_eq_true_iff] at h;cases ix with
 | ofNat t=>grind
 | negSucc t=>cases th with
  | ofNat n=>cases n<;>rfl
  | negSucc n=>rfl
theorem BP {g:XG} {th ix:Int} (h:dy (.ofNat g.threads.length) th=true):ez g ⟨th,ix⟩=none:=by
 rw[eM,decide_eq_true_iff] at h;cases th with
 | negSucc t=>rfl
 | ofNat t=>
  have h:g.threads.length<t:=Int.ofNat_lt.1 h;cases t with
  | zero=>omega
  | succ t=>
   cases ix with
   | negSucc n=>rfl
   | ofNat n=>
    show(g.threads[t]?).bind _=none
    grind
theorem nv {n:Int} (h:dy n 0=false):∃m:Nat,n= .ofNat m:=by
 rw[eM,decide_eq_false_iff_not] at h;cases n with
 | ofNat m=>exact⟨m,Z⟩
 | negSucc m=>omega
theorem GK {n:Nat} (h:bM (.ofNat n) 0=false):∃m:Nat,n=m+1:=by
 cases n with
 | zero=>cases h
 | succ m=>exact⟨m,Z⟩
theorem fP {t:Nat} (h:t<=9223372036854775807):wr .i64 (Int.sub (.ofNat (t+1)) 1)= .ofNat t:=by
 have e:Int.sub (.ofNat (t+1)) 1= .ofNat t:=by
  grind
 rw[e];show(bif Nat.ble t 9223372036854775807 then _ else _)=_
 grind [nE_]
theorem mV {a b:Nat} (h:dy (.ofNat a) (.ofNat b)=false):b<=a:=bC h
theorem jm {a b:Nat} (h:(bif dy (.ofNat a) (.ofNat b) then false else true)=false):a<b:=aS (a7 h)
theorem jg {a b:Nat} (h:(bif dy (.ofNat a) (.ofNat b) then false else true)=true):b<=a:=bC (bL h)
section
variable {P:Program} {G:Cx} {n:Nat} {t:PT J} {V:N} {Q:Ex->PT J->N->Prop}
theorem dJ {fn:Func} {j k ty b m e:Nat} {ro:Bool} {cells:List J} {v:J} (u:fn.results.toList= [.cell j ty,.tmp k]) (h1:t.get j=some (.ptr b 0)) (hm:V.m.get b=some (.row cells e ro)) (A:dN P ty=some (some m)) (d:cells.length=m) (C:t.get k=some v):dU P fn t V=some (.tuple [.agg cells,v]):=by
 unfold dU;rw[u]
 have e1:fm P t V (.cell j ty)=some (J.agg cells):=by
  show(match t.get (posOf j) with
   | some (.ptr b off)=>match V.m.get b with
    | some (.row cells _ _)=>match dN P ty with
     | some (some n)=>bif Nat.ble (off+n) (di cells) then some (J.agg<|takeN (dK cells off) n) else none
     | some none=>nth cells off
     | none=>none
    | _=>none
   | _=>none)=_
  rw[show t.get (posOf j)=some (.ptr b 0) from h1];dsimp only;rw[hm];dsimp only;rw[A];dsimp only;rw[bT,d,nA_,show Nat.ble m m=true by simp_all,dp,dF,List.drop_zero,<-d,List.take_length];rfl
 have e2:fm P t V (.tmp k)=some v:=C
 have:cM (fm P t V) [.cell j ty,.tmp k]=some [J.agg cells,v]:=by
  unfold cM;simp only[e1,e2]
 rw[this]
theorem fu {fn:Func} {R:J->N->Prop} {j k ty b m e:Nat} {ro:Bool} {cells:List J} {v:J} (d:fn.results.toList= [.cell j ty,.tmp k]) (h1:t.get j=some (.ptr b 0)) (hm:V.m.get b=some (.row cells e ro)) (u:dN P ty=some (some m)) (A:cells.length=m) (C:t.get k=some v) (E:R (.tuple [.agg cells,v]) V):Ek P fn R .ret t V:=
 ⟨.inr Z,_,dJ d h1 hm u A C,E⟩
end
end Go.Ev
namespace Go.Ev
variable [Env]
def cV (g:XG) (id from_:cQ):Bool:=
 bif !dR (vW<|ez g id) then bW [from_.cq,from_.index] [0,0] else
 bif (ez g from_).isSome then
  bif (bif bW [from_.cq,from_.index] [id.cq,id.index] then false else true) then
   bif bH (vW<|ez g from_) then
    bif bM (vW<|ez g from_).loc (vW<|ez g id).loc then bM (vW<|ez g from_).write (vW<|ez g id).read else false
   else false
  else false
 else false
def eE (g:XG):Bool:=bif dy 4 (.ofNat g.threads.length) then true else bif dy 6 (.ofNat g.init.length) then true else g.threads.any fun l=>dy 14 (.ofNat l.length)
abbrev LM:=List (List Int×Int)
inductive eX (n:Nat):List eB->LM->Prop
 | nil:eX n [] []
 | cons {e:eB} {k:List Int} {v:Int} {es:List eB} {m:LM}:k.length=n->e.key= .agg (ints k)->e.val= .int .i64 v->eX n es m->eX n (e::es) ((k,v)::m)
def oQ:LM->List Int->Nat->Option (Nat×Int)
 | [],_,_=>none
 | (k',v)::m,k,i=>bif bW k k' then some (i,v) else oQ m k (i+1)
def fB (m:LM) (k:List Int):Option Int:=(oQ m k 0).map (·.2)
def oS (m:LM) (k:List Int) (v:Int):LM:=
 match oQ m k 0 with
 | some (i,_)=>m.set i (k,v)
 | none=>m++[(k,v)]
def kF (m:LM) (k:List Int):LM:=
 match oQ m k 0 with
 | some (i,_)=>m.eraseIdx i
 | none=>m
theorem eX.length {n:Nat} {es:List eB} {m:LM} (h:eX n es m):es.length=m.length:=by
 induction h with
 | nil=>rfl
 | cons _ _ _ _ ih=>simp[ih]
theorem eX.set {n:Nat} {es:List eB} {m:LM} (h:eX n es m) {e:eB} {k:List Int} {v:Int} (h1:k.length=n) (u:e.key= .agg (ints k)) (A:e.val= .int .i64 v):∀i,eX n (es.set i e) (m.set i (k,v)):=by
 induction h with
 | nil=>intro i;exact .nil
 | cons a b c d ih=>
  intro i;cases i with
  | zero=>exact .cons h1 u A d
  | succ i=>exact .cons a b c (ih i)
theorem eX.snoc {n:Nat} {es:List eB} {m:LM} (h:eX n es m) {e:eB} {k:List Int} {v:Int} (h1:k.length=n) (u:e.key= .agg (ints k)) (A:e.val= .int .i64 v):eX n (es++[e]) (m++[(k,v)]):=by
 induction h with
 | nil=>exact .cons h1 u A .nil
 | cons a b c d ih=>exact .cons a b c ih
theorem eX.erase {n:Nat} {es:List eB} {m:LM} (h:eX n es m):∀i,eX n (es.eraseIdx i) (m.eraseIdx i):=by
 induction h with
 | nil=>intro i;exact .nil
 | cons a b c d ih=>
  intro i;cases i with
  | zero=>exact d
  | succ i=>exact .cons a b c (ih i)
theorem eX.at {n:Nat} {es:List eB} {m:LM} (h:eX n es m):∀{i:Nat} {k:List Int} {v:Int},m[i]? =some (k,v)->∃e,es[i]? =some e/\k.length=n/\e.key= .agg (ints k):=by
 induction h with
 | nil=>simp_all
 | cons a b c d ih=>
  grind
theorem vR:∀(es:List eB) (i:Nat),vP es i=es.eraseIdx i
 | [],_=>rfl
 | _::_,0=>rfl
 | e::es,i+1=>by
  show e::vP es i=e::es.eraseIdx i;rw[vR es i]
theorem pY:∀{m:LM} {k:List Int} {i j:Nat} {v:Int},oQ m k i=some (j,v)->i<=j/\m[j-i]? =some (k,v)
 | [],k,i,j,v,h=>by cases h
 | (k',v')::m,k,i,j,v,h=>by
  have h':(bif bW k k' then some (i,v') else oQ m k (i+1))=some (j,v):=h;cases b:bW k k' with
  | true=>
   grind [bR]
  | false=>
   rw[b] at h';obtain⟨h1,h2⟩:=pY h'
   grind
theorem qC:∀(xs:List Int),oj (ints xs) (ints xs)=true
 | []=>rfl
 | x::xs=>by
  have e:ry (.int .i64 x) (.int .i64 x)=some true:=by
   show(bif sQ .i64 .i64 then some (bM x x) else none)=some true;rw[dv];simp[sQ]
  show(match ry (.int .i64 x) (.int .i64 x) with | some true=>oj (ints xs) (ints xs) | _=>false)=true;rw[e];exact qC xs
section
variable {P:Program}
theorem we {t:TypeId} {fs:Array Field} {n:Nat} (hu:P.underlying t=some (.struct fs)) (u:iW P t n=true) {k:List Int} (hk:k.length=n) {es:List eB} {m:LM} (h:eX n es m):∀i,l6 P t (.agg<|ints k) es i=some ((oQ m k i).map fun x=>(x.1,.int .i64 x.2)):=by
 induction h with
 | nil=>intro i;rfl
 | @cons e k' v es m a b c d ih=>
  intro i
  have hq:lF P t (.agg<|ints k) e.key=some (bW k k'):=by
   unfold lF;rw[hu,b];exact vU u hk a
  show(match lF P t (.agg<|ints k) e.key with
   | some true=>some (some (i,e.val))
   | some false=>l6 P t (.agg<|ints k) es (i+1)
   | none=>none)=some (Option.map _ (bif bW k k' then some (i,v) else oQ m k (i+1)))
  grind
structure DF (P:Program) (t kt et:TypeId) (n:Nat):Prop where
 ty:P.underlying t=some (.map kt et)
 plain:plainKey P kt=true
 ints:iW P kt n=true
 zero:eQ P et=some (.int .i64 0)
 shape:∀k:List Int,k.length=n->jl P kt (.agg<|Go.Ev.ints k)=true
theorem kE {t:TypeId} {n:Nat} (h:iW P t n=true):∃fs,P.underlying t=some (.struct fs):=by
 grind [iW,structOf,nc]
variable {G:Cx} {ev:Operand->Option J} {V:N}
theorem LB {t kt et:TypeId} {n:Nat} (d:DF P t kt et n) {b:Nat} {es:List eB} {ck:Nat} {m:LM} (hm:eX n es m) (hb:V.m.get b=some (.map es ck)) {mo ko xo:Operand} {k:List Int} {v:Int} (hk:k.length=n) (h1:ev mo=some (.map b)) (A:ev ko=some (.agg<|ints k)) (C:ev xo=some (.int .i64 v)):
  ∃es' ck',dM P G ev V (.mapUpdate t mo ko xo)= .skip (V.setObj b (.map es' ck'))/\eX n es' (oS m k v):=by
 obtain⟨fs,hu⟩:=kE d.ints;have hf:=we hu d.ints hk hm 0
 have key:∃es' ck',jY P V t (.map b) (.agg<|ints k) (.int .i64 v)=some (V.setObj b (.map es' ck'))/\eX n es' (oS m k v):=by
  unfold jY oS;rw[d.ty];dsimp only;rw[hb];dsimp only;rw[d.plain,d.shape k hk];simp only[Bool.and_self,cond_true];rw[hf];cases hl:oQ m k 0 with
  | none=>exact⟨_,_,Z,by rw[dH];exact hm.snoc hk Z Z⟩
  | some x=>
   obtain⟨i,v0⟩:=x;have hi:=(pY hl).2;rw[Nat.sub_zero] at hi;obtain⟨e,he,_,u⟩:=hm.at hi;simp only[Option.map_some];rw[eU,he];dsimp only;have E:sameKey e.key (.agg<|ints k)=true:=by rw[u];exact qC k
   rw[E];exact⟨_,_,Z,by unfold AO;rw[tP];exact hm.set (e:={key:=.agg<|ints k,val:=.int .i64 v,born:=e.born}) hk Z Z i⟩
 obtain⟨es',ck',h4,h5⟩:=key;refine⟨es',ck',iy Z ?_,h5⟩;simp only[fw,h1,A,C,h4]
theorem LA {t kt et:TypeId} {n:Nat} (d:DF P t kt et n) {b:Nat} {es:List eB} {ck:Nat} {m:LM} (hm:eX n es m) (hb:V.m.get b=some (.map es ck)) {mo ko:Operand} {k:List Int} (hk:k.length=n) (h1:ev mo=some (.map b)) (u:ev ko=some (.agg<|ints k)):
  dM P G ev V (.lookup t mo ko true)= .val (.tuple [.int .i64 ((fB m k).getD 0),.bool (fB m k).isSome]) V:=by
 obtain⟨fs,hu⟩:=kE d.ints;have hf:=we hu d.ints hk hm 0;refine pE Z ?_;simp only[eY,d.ty,u,h1,hb,d.plain,d.shape k hk,Bool.and_self,cond_true,hf,d.zero];unfold fB;cases oQ m k 0 with
 | none=>rfl
 | some x=>rfl
theorem Lw {c:Call} {t kt et:TypeId} {n:Nat} (d:DF P t kt et n) {b:Nat} {es:List eB} {ck:Nat} {m:LM} (hm:eX n es m) (hb:V.m.get b=some (.map es ck)) {mo ko:Operand} {k:List Int} (hk:k.length=n) (hc:c.callee= .builtin .delete) (u:c.argTypes[0]? =some t) (A:c.args.toList= [mo,ko]) (h1:ev mo=some (.map b)) (C:ev ko=some (.agg<|ints k)):
  ∃es',dM P G ev V (.call c)= .val (.tuple []) (V.setObj b (.map es' ck))/\eX n es' (kF m k):=by
 obtain⟨fs,hu⟩:=kE d.ints;have hf:=we hu d.ints hk hm 0
 have key:∃es',pO P V c.argTypes (.map b) (.agg<|ints k)=some (V.setObj b (.map es' ck))/\eX n es' (kF m k):=by
  unfold pO kF;rw[u];dsimp only;rw[d.ty];dsimp only;rw[hb];dsimp only;rw[d.plain,d.shape k hk];simp only[Bool.and_self,cond_true];rw[hf];cases hl:oQ m k 0 with
  | none=>grind
  | some x=>
   obtain⟨i,v0⟩:=x;exact⟨_,Z,by rw[vR];exact hm.erase i⟩
 obtain⟨es',h4,h5⟩:=key;refine⟨es',iy (by simp[kindOf,hc]) ?_,h5⟩
 have he:tb ev [mo,ko]=some [.map b,.agg<|ints k]:=by
  unfold tb cM;simp only[h1,C]
 simp only[fw,hc,A,he,h4]
theorem Ly {c:Call} {t kt et:TypeId} {n:Nat} (d:DF P t kt et n) {b:Nat} {es:List eB} {ck:Nat} {m:LM} (hm:eX n es m) (hb:V.m.get b=some (.map es ck)) {mo:Operand} (hc:c.callee= .builtin .len) (u:c.argTypes[0]? =some t) (A:c.args.toList= [mo]) (h1:ev mo=some (.map b)):
  dM P G ev V (.call c)= .val (.int .i64 (.ofNat m.length)) V:=by
 refine pE (by simp[kindOf,hc,isMap,u,d.ty]) ?_;simp only[eY,hc,u,A,d.ty,h1,hb,bT,hm.length]
end
section
variable {P:Program} {G:Cx} {n:Nat} {t:PT J} {V:N} {K:KP} {L:Own} {Q:Ex->PT J->N->Prop} {ops:Array Oper} {o:Oper} {l:List Oper}
theorem N3 (d:St V K L) {t':Nat->PT J} (hw:bF ops t o=some true) (hv:dM P G (bn G t) V o.op= .val (.map V.next) (V.alloc (.map [] 0))) (hp:∀b,dA t n o.dst (.map b)=some (t' b))
  (h:∀(V':N) (b:Nat),St V' K ((b,.map [] 0)::L)->bP P G ops n l (t' b) V' Q):bP P G ops n (o::l) t V Q:=
 Y hw hv (hp _) (h _ _<|d.alloc _)
theorem zF {ev:Operand->Option J} {ty:TypeId}:dM P G ev V (.makeMap ty none)= .val (.map V.next) (V.alloc (.map [] 0)):=by
 exact qo (op:=.makeMap ty none) (mk:=.map) (ob:=.map [] 0) Z Z
theorem HO {ty kt et:TypeId} {kn:Nat} (u:DF P ty kt et kn) {b:Nat} {es:List eB} {ck:Nat} {m:LM} {x:Nat×cu} (hm:eX kn es m) (d:St V K (x::(b,.map es ck)::L)) {mo ko xo:Operand} {k:List Int} {v:Int} {t':PT J} (hk:k.length=kn) (hw:bF ops t o=some true) (A:o.op= .mapUpdate ty mo ko xo)
  (h1:bn G t mo=some (.map b)) (C:bn G t ko=some (.agg<|ints k)) (E:bn G t xo=some (.int .i64 v)) (hp:dA t n o.dst unit=some t')
  (h:∀V' es' ck',St V' K (x::(b,.map es' ck')::L)->eX kn es' (oS m k v)->bP P G ops n l t' V' Q):bP P G ops n (o::l) t V Q:=by
 obtain⟨es',ck',e1,e2⟩:=LB (G:=G) u hm (d.get 1 Z) hk h1 C E;exact lu hw (by rw[A];exact e1) hp<|h _ _ _ (d.KI _) e2
theorem HN {c:Call} {ty kt et:TypeId} {kn:Nat} (u:DF P ty kt et kn) {b:Nat} {es:List eB} {ck:Nat} {m:LM} {x:Nat×cu} (hm:eX kn es m) (d:St V K (x::(b,.map es ck)::L)) {mo ko:Operand} {k:List Int} {t':PT J} (hk:k.length=kn) (hw:bF ops t o=some true) (A:o.op= .call c)
  (hc:c.callee= .builtin .delete) (C:c.argTypes[0]? =some ty) (E:c.args.toList= [mo,ko]) (h1:bn G t mo=some (.map b)) (F:bn G t ko=some (.agg<|ints k)) (hp:dA t n o.dst (.tuple [])=some t')
  (h:∀V' es',St V' K (x::(b,.map es' ck)::L)->eX kn es' (kF m k)->bP P G ops n l t' V' Q):bP P G ops n (o::l) t V Q:=by
 obtain⟨es',e1,e2⟩:=Lw (G:=G) u hm (d.get 1 Z) hk hc C E h1 F;exact Y hw (by rw[A];exact e1) hp<|h _ _ (d.KI _) e2
end
end Go.Ev
namespace Go.Ev
variable [Env]
def wy (t:Nat) (m:LM) (n:Nat) (e:cU):LM:=bif bH e then oS m [.ofNat (t+1),.ofNat n] e.loc else m
def qu (t:Nat):List cU->Nat->LM->LM
 | [],_,m=>m
 | e::l,n,m=>qu t l (n+1) (wy t m n e)
def oa:List (List cU)->Nat->LM->LM
 | [],_,m=>m
 | l::r,t,m=>oa r (t+1) (qu t l 0 m)
def kL (loc:Nat):List cQ->LM->Option LM
 | [],m=>some m
 | id::l,m=>bif (fB m id.ints).isSome then(bif bM ((fB m id.ints).getD 0) (.ofNat loc) then kL loc l (kF m id.ints) else none) else none
def mr:List (List cQ)->Nat->LM->Option LM
 | [],_,m=>some m
 | l::r,loc,m=>(kL loc l m).bind (mr r (loc+1))
def eG (g:XG):Bool:=
 match mr g.order 0 (oa g.threads 0 []) with
 | some m=>bM (.ofNat m.length) 0
 | none=>false
theorem cz {α:Type} {l:List α} {i:Nat} {x:α} (h:l[i]? =some x):l.drop i=x::l.drop (i+1):=by
 grind [List.drop_eq_getElem_cons]
theorem ff {α:Type} {l:List α} {i:Nat} (h:l.length<=i):l.drop i= []:=List.drop_eq_nil_of_le h
end Go.Ev
namespace Go.Ev
theorem wP {b:Bool} (h:(!b)=true):b=false:=by cases b<;>simp_all
theorem kG {b:Bool} (h:(!b)=false):b=true:=by cases b<;>simp_all
end Go.Ev
namespace Go.Ev
variable [Env]
def fx {α:Type} (p:α->Bool):List α->Nat->Int
 | [],_=>-1
 | x::r,i=>bif p x then .ofNat i else fx p r (i+1)
theorem wx {α:Type} {p:α->Bool}:∀(l:List α) (i:Nat),(bif dy (fx p l i) 0 then false else true)=l.any p
 | [],_=>rfl
 | x::r,i=>by
  show(bif dy (bif p x then .ofNat i else fx p r (i+1)) 0 then false else true)=_;rw[List.any_cons];cases p x with
  | true=>rfl
  | false=>exact wx r (i+1)
def xO (g:XG) (t n:Nat) (e:cU) (f:cQ):Bool:=bif bQ e (.ofNat g.init.length) then cV g ⟨.ofNat (t+1),.ofNat n⟩ f else false
def pf (g:XG) (t:Nat):List cU->List cQ->Nat->Bool
 | e::l,f::q,n=>bif xO g t n e f then pf g t l q (n+1) else false
 | [],_,_=>true
 | _::_,[],_=>false
def kI (g:XG):List (List cU)->List (List cQ)->Nat->Bool
 | l::r,f::q,t=>bif bM (.ofNat f.length) (.ofNat l.length) then(bif pf g t l f 0 then kI g r q (t+1) else false) else false
 | [],_,_=>true
 | _::_,[],_=>false
def bY (g:XG):Int:=
 bif eE g then 3 else bif bM (.ofNat g.from_.length) (.ofNat g.threads.length) then(bif bM (.ofNat g.order.length) (.ofNat g.init.length) then(bif kI g g.threads g.from_ 0 then(bif eG g then 0 else 2) else 2) else 2) else 2
theorem xw:∀(l:List J) (off:Nat),dB [] l off=l
 | [],_=>rfl
 | x::l,0=>rfl
 | x::l,off+1=>by
  show x::dB [] l off=x::l;rw[xw l off]
def nh (P:Program) (e:TypeId) (m:Nat):Bool:=
 match P.info? e with
 | some j=>Nat.beq j.size m && (Nat.ble 1 j.size && (Nat.ble j.bytes 65536 && ((j.zero.bind nP).any fun z=>(cd z).any fun cs=>Nat.beq (di cs) j.size)))
 | none=>false
theorem tX:∀(l r:List J),bO l=true->bO r=true->bO (l++r)=true
 | [],r,_,h=>h
 | v::l,r,h,h'=>by
  have h1:(bif fJ v then bO l else false)=true:=h;cases hv:fJ v with
  | false=>rw[hv] at h1;cases h1
  | true=>rw[hv] at h1;exact ar hv<|tX l r h1 h'
theorem uw {m:Nat}:∀(n:Nat) (cells:List J),cells.length=n*m->(∀i,i<n->bO ((cells.drop (i*m)).take m)=true)->bO cells=true
 | 0,cells,h,_=>by
  rw[Nat.zero_mul] at h;rw[eN_ h];rfl
 | n+1,cells,h,hh=>by
  have e:cells=cells.take m++cells.drop m:=(List.take_append_drop m cells).symm;rw[Nat.succ_mul] at h;rw[e];refine tX _ _ (by have:=hh 0 oM;grind) (uw (m:=m) n (cells.drop m) (by grind) fun i hi=>?_)
  grind [Nat.succ_mul,List.drop_drop]
section
variable {P:Program} {G:Cx} {V:N} {K:KP} {L:Own}
theorem qi {α:Type} {m:Nat} {R:α->List J->Prop} {l:List α} {v:J} (aq:St V K L) (h:bG K m R l v) (d:∀x vs,R x vs->bO vs=true):
  ∃news,jt V m v=some (l.length,news)/\news.length=l.length*m/\bO news=true/\∀(i:Nat) (x:α),l[i]? =some x->R x ((news.drop (i*m)).take m):=by
 rcases h with ⟨rfl,rfl⟩ | ⟨b,off,c,cells,e,ro,rfl,h2,E,h4,h5,h6⟩
 ·exact⟨[],Z,(Nat.zero_mul m).symm,Z,fun i x hx=>by simp at hx⟩
 have A:∀(i:Nat) (x:α),l[i]? =some x->R x ((((cells.drop off).take (l.length*m)).drop (i*m)).take m):=fun i x hx=>by
  have u:i<l.length:=(gA.1 hx).1;have hle:(i+1)*m<=l.length*m:=nM_ _ u
  grind [List.drop_take,List.drop_drop]
 have C:((cells.drop off).take (l.length*m)).length=l.length*m:=by grind
 refine⟨(cells.drop off).take (l.length*m),?_,C,uw l.length _ C fun i hi=>d _ _ (A i l[i]<|gC hi),A⟩;unfold jt;dsimp only;rw[aq.eS E]
 grind [bT,nE_,dp,dF]
theorem Ds {α:Type} {m e:Nat} {R:α->List J->Prop} {l2:List α} {v2:J} {b d e1:Nat} {cells1:List J} {c:nL} {ts:Array TypeId} {t:TypeId} (I:St V K ((b,.row cells1 e1 false)::L)) (hx:bG K m R l2 v2) (E:∀x vs,R x vs->bO vs=true) (hn:l2.length<=1048576)
  (F:cells1.length=d*m) (aa:d<=1048576) (M:c= .known d∨(c= .upto m/\e1=e)) (ht:ts[0]? =some t) (hu:P.underlying t=some (.slice e)) (T:nh P e m=true) (h2:dt P ts[1]? =true):
  ∃V' b' c' news e',eR P V ts (.slice b 0 d c) v2= .val (.slice b' 0 (d+l2.length) c') V'/\St V' K ((b',.row (cells1++news) e' false)::L)/\news.length=l2.length*m/\(∀(i:Nat) (x:α),l2[i]? =some x->R x ((news.drop (i*m)).take m))/\(c'= .known (d+l2.length)∨(c'= .upto m/\e'=e)):=by
 obtain⟨news,s1,X,s3,W⟩:=qi I hx E;unfold nh at T;split at T
 ·rename_i j hj;simp only[bA_] at T;obtain⟨a1,a2,a3,a4⟩:=T;have hm:j.size=m:=nB a1;subst hm;have hz:((P.info? e).any fun j=>(j.zero.bind nP).any fun z=>(cd z).any fun cs=>Nat.beq (di cs) j.size)=true:=by rw[hj];exact a4
  have hb:=I.get 0 Z;unfold eR;rw[ht];dsimp only;rw[hu];dsimp only;rw[hj];dsimp only;rw[h2,a2,a3];simp only[Bool.and_self,cond_true];rw[s1];dsimp only;rw[hj] at hz;rw[s3,show Nat.ble l2.length 1048576=true by simp_all,hz];simp only[Bool.and_self,cond_true];have hle:Nat.ble (0+d*j.size) (di cells1)=true:=by rw[nE_,bT,F];omega
  have A:takeN (dK cells1 0) (d*j.size)=cells1:=by grind [dp,dF]
  have C:Nat.ble d 1048576=true:=by simp_all
  rcases M with rfl | ⟨rfl,rfl⟩
  ·dsimp only
   by_cases h0:l2.length=0
   ·have u:news= []:=eN_ (by simp_all);subst u;rw[h0,show Nat.ble (d+0) d=true by simp_all];simp only[cond_true];rw[hb];dsimp only;rw[show Nat.ble (0+d*j.size+di []) (di cells1)=true by rw[nE_,bT,bT,F];simp];simp only[cond_true];refine⟨_,b,.known d,[],e1,Z,?_,by simp,W,.inl Z⟩;rw[xw,List.append_nil];exact I.tO _
   have:Nat.ble (d+l2.length) d=false:=by
    grind [nE_]
   rw[this];simp only[cond_false];rw[hb];dsimp only;rw[hle,C,A,dH];simp only[Bool.and_self,cond_true];refine⟨_,_,_,news,e,Z,?_,X,W,.inr ⟨Z,Z⟩⟩;exact((I.alloc _).perm<|List.Perm.swap ..).pop
  dsimp only
  by_cases h0:l2.length=0
  ·have u:news= []:=eN_ (by simp_all);subst u;rw[h0];exact⟨_,b,.upto j.size,[],e1,Z,by simp_all,by simp,W,.inr ⟨Z,Z⟩⟩
  have:Nat.beq l2.length 0=false:=by
   grind [nB]
  rw[this,Nat.beq_refl,C];simp only[Bool.and_self,cond_true,cond_false];rw[hb];dsimp only
  have U:Nat.ble (0+d*j.size+di news) (di cells1)=false:=by
   cases hh:Nat.ble (0+d*j.size+di news) (di cells1) with
   | false=>rfl
   | true=>
    rw[nE_,bT,bT,F,X] at hh;have h1:1<=j.size:=by simp_all
    have:1<=l2.length*j.size:=Nat.mul_pos oM h1;omega
  rw[U,Bool.and_false];simp only[cond_false];rw[hle,Nat.beq_refl,A,dH];simp only[Bool.and_self,cond_true];exact⟨_,_,_,news,e1,Z,I.xl _,X,W,.inr ⟨Z,Z⟩⟩
 cases T
end
section
variable {P:Program} {G:Cx} {n:Nat} {t:PT J} {V:N} {K:KP} {L:Own} {Q:Ex->PT J->N->Prop} {ops:Array Oper} {o:Oper} {l:List Oper}
theorem iL {ev:Operand->Option J} {cl:Call} {so xo:Operand} {s x:J} {r:HR} (hc:cl.callee= .builtin .append) (d:cl.args.toList= [so,xo]) (h1:ev so=some s) (m:ev xo=some x) (b:dt P cl.argTypes[1]? =true) (h:eR P V cl.argTypes s x=r):dM P G ev V (.call cl)=r:=by
 refine iy (by simp[kindOf,hc]) ?_
 have he:tb ev [so,xo]=some [s,x]:=by
  unfold tb cM;simp only[h1,m]
 simp only[fw,hc,d,he,b,cond_true];exact h
theorem wR {α:Type} {m e:Nat} {R:α->List J->Prop} {l2:List α} {W:J} {b d e1:Nat} {u:List J} {c:nL} {ty:TypeId} {cl:Call} {so xo:Operand} {t':J->PT J} (hs:St V K ((b,.row u e1 false)::L)) (hx:bG K m R l2 W) (A:∀x vs,R x vs->bO vs=true) (hn:l2.length<=1048576)
  (F:u.length=d*m) (I:d<=1048576) (E:c= .known d∨(c= .upto m/\e1=e)) (hw:bF ops t o=some true) (ho:o.op= .call cl) (M:cl.callee= .builtin .append) (C:cl.args.toList= [so,xo]) (ht:cl.argTypes[0]? =some ty) (hu:P.underlying ty=some (.slice e)) (ha:nh P e m=true) (X:dt P cl.argTypes[1]? =true)
  (T:bn G t so=some (.slice b 0 d c)) (U:bn G t xo=some W) (hp:∀v,dA t n o.dst v=some (t' v))
  (h:∀(V':N) (b':Nat) (c':nL) (news:List J) (e':Nat),St V' K ((b',.row (u++news) e' false)::L)->news.length=l2.length*m->(∀(i:Nat) (x:α),l2[i]? =some x->R x ((news.drop (i*m)).take m))->(c'= .known (d+l2.length)∨(c'= .upto m/\e'=e))->bP P G ops n l (t' (.slice b' 0 (d+l2.length) c')) V' Q):bP P G ops n (o::l) t V Q:=by
 obtain⟨V',b',c',news,e',k1,k2,k3,k4,k5⟩:=Ds (P:=P) hs hx A hn F I E ht hu ha X;refine Y hw ?_ (hp _)<|h V' b' c' news e' k2 k3 k4 k5;rw[ho];exact iL M C T U X k1
end
end Go.Ev
namespace Go.Ev
variable [Env]
section
variable {P:Program} {G:Cx} {n:Nat} {t:PT J} {V:N} {K:KP} {L:Own} {Q:Ex->PT J->N->Prop} {ops:Array Oper} {o:Oper} {l:List Oper}
theorem Fa {α:Type} {m e k:Nat} {kk:IntKind} {R:α->List J->Prop} {la:List α} {v:J} {ty:TypeId} {ev:Operand->Option J} {xo hi:Operand} (h:bG K m R la v) (hk:k<=la.length) (hu:P.underlying ty=some (.slice e)) (hj:(P.info? e).map (·.size)=some m) (hx:ev xo=some v) (hh:ev hi=some (.int kk (.ofNat k))):
  ∃w,fy P ev ty xo none (some hi) none=some w/\bG K m R (la.take k) w:=by
 cases hq:P.info? e with
 | none=>simp_all
 | some j=>
 rw[hq] at hj;have hj:j.size=m:=by simpa using hj
 subst hj;have hlen:(la.take k).length=k:=by simp_all
 have hb:∀y,k<=y->dW ev hi y=some k:=fun y hy=>by
  unfold dW;rw[hh]
  grind [nE_]
 rcases h with ⟨rfl,rfl⟩ | ⟨b,off,c,cells,e',ro,rfl,A,C,h4,h5,h6⟩
 ·have d:k=0:=by simpa using hk
  subst d;refine⟨.au,?_,.inl ⟨by simp,Z⟩⟩;unfold fy;rw[hu,hx];dsimp only;unfold cO
  simp_all
 have fin:∀c',Bl j.size k c'->bG K j.size R (la.take k) (.slice b off k c'):=fun c' u=>by
  refine .inr ⟨b,off,c',cells,e',ro,by rw[hlen],by rw[hlen];exact u,C,?_,by rw[hlen];omega,fun i x aa=>?_⟩
  ·rw[hlen];have:k*j.size<=la.length*j.size:=nM_ _ hk;omega
  grind
 rcases A with rfl | ⟨cp,rfl,ab⟩
 ·refine⟨.slice b off k (.upto j.size),?_,fin _ (.inl Z)⟩;unfold fy;rw[hu,hx];dsimp only;unfold cO
  simp_all
 refine⟨.slice b off k (.known cp),?_,fin _ (.inr ⟨cp,Z,by omega⟩)⟩;unfold fy;rw[hu,hx];dsimp only;unfold cutAt cO;dsimp only;rw[hb _ oM];dsimp only;unfold cut
 simp_all
end
theorem fW {g:XG} (h:bY g=0):g.threads.length<=4/\g.init.length<=6/\(∀l∈g.threads,l.length<=14)/\g.from_.length=g.threads.length/\g.order.length=g.init.length/\kI g g.threads g.from_ 0=true/\eG g=true:=by
 unfold bY at h;cases h1:eE g with
 | true=>rw[h1] at h;cases h
 | false=>
  rw[h1] at h;simp only[cond_false] at h;cases b:bM (.ofNat g.from_.length) (.ofNat g.threads.length) with
  | false=>rw[b] at h;cases h
  | true=>
   rw[b] at h;simp only[cond_true] at h;cases d:bM (.ofNat g.order.length) (.ofNat g.init.length) with
   | false=>rw[d] at h;cases h
   | true=>
    rw[d] at h;simp only[cond_true] at h;cases h4:kI g g.threads g.from_ 0 with
    | false=>rw[h4] at h;cases h
    | true=>
     rw[h4] at h;simp only[cond_true] at h;cases h5:eG g with
     | false=>rw[h5] at h;cases h
     | true=>
      unfold eE at h1;cases m:dy 4 (.ofNat g.threads.length) with
      | true=>simp_all
      | false=>
       rw[m] at h1;simp only[cond_false] at h1;cases u:dy 6 (.ofNat g.init.length) with
       | true=>simp_all
       | false=>
        rw[u] at h1;simp only[cond_false] at h1;refine⟨bC (a:=4) m,bC (a:=6) u,fun l hl=>?_,cN b,cN d,Z,Z⟩;have:=List.any_eq_false.1 h1 l hl;exact bC (a:=14) (by simpa using this)
def mG {α:Type} (ls:List (List α)):Nat:=(ls.map List.length).sum
def Ef (g:XG):Nat:=bif bM (bY g) 0 then g.init.length+mG g.threads else 0
end Go.Ev
namespace Go.Ev
variable [Env]
theorem NN {a:Int} (h:bM a 0=true):a=0:=by rw[dv] at h;simp_all
theorem Je {g:XG} {th ix:Int} (h:(ez g ⟨th,ix⟩).isSome=true):∃t i:Nat,th= .ofNat t/\ix= .ofNat i/\t<=g.threads.length/\(t=0->i<g.init.length)/\∀m,t=m+1->∃l,g.threads[m]? =some l/\i<l.length:=by
 cases th with
 | negSucc t=>cases h
 | ofNat t=>cases ix with
  | negSucc i=>cases t<;>cases h
  | ofNat i=>
   refine⟨t,i,Z,Z,?_,?_,?_⟩
   ·cases t with
    | zero=>exact Nat.zero_le _
    | succ t=>
     have h:((g.threads[t]?).bind (·[i]?)).isSome=true:=h
     grind
   ·rintro rfl;have h:((g.init[i]?).map fun v=>(⟨2,i,1,0,v⟩:cU)).isSome=true:=h
    simp_all
   rintro m rfl;have h:((g.threads[m]?).bind (·[i]?)).isSome=true:=h
   grind
section
variable {V:N} {K K':KP} {L:Own}
theorem St.weaken (h:St V K' L) (hk:KP.le K K'):St V K L where
 kept b o hb:=h.kept b o (hk b o hb)
 own:=h.own
 ne:=h.ne
def KP.ml (K:KP) (M:Own):KP:=fun b o=>K b o∨(b,o)∈M
theorem KP.dX (K:KP) (M:Own):KP.le K (K.ml M):=fun _ _ h=>.inl h
theorem KP.cA {M:Own} (k:Nat) {b:Nat} {o:cu} (h:M[k]? =some (b,o)):K.ml M b o:=.inr (gB_ h)
theorem St.keeps {M:Own} (h:St V K (M++L)):St V (K.ml M) L where
 kept b o hb:=by
  rcases hb with hb | hb
  ·exact h.bX.kept b o hb
  obtain⟨h1,d⟩:=h.own _ (List.mem_append_left _ hb);exact⟨h1,d,fun e he hh=>(List.pairwise_append.1 h.ne).2.2 _ hb e he hh.symm⟩
 own e he:=h.own e (List.mem_append_right _ he)
 ne:=(List.pairwise_append.1 h.ne).2.1
theorem fO {b e:Nat} {ro:Bool} {cells:List J} (h:K b (.row cells e ro)):dz K (.ptr b 0) cells:=⟨b,0,cells,e,ro,Z,h,by omega,by simp⟩
end
section
variable {P:Program} {G:Cx} {K K':KP}
def uQ (P:Program) (G:Cx) (K:KP) (n:Int) (vs:List J):Prop:=
 ∃(f:Nat) (ca:List J),vs= [.func f [] ca]/\qv P f=true/\∀(V:N) (L:Own),St V K L->aW P G f ca V fun v V'=>v= .int .i64 n/\St V' K L
def fc (P:Program) (G:Cx) (K:KP) (l:List Int) (cells:List J):Prop:=l.length=cells.length/\∀(i:Nat) (x:Int),l[i]? =some x->∃c,cells[i]? =some c/\uQ P G K x [c]
theorem fc.nil:fc P G K [] []:=⟨Z,fun i x h=>by simp at h⟩
theorem fc.cons {x:Int} {l:List Int} {c:J} {cells:List J} (h:uQ P G K x [c]) (b:fc P G K l cells):fc P G K (x::l) (c::cells):=by
 refine⟨by simp[b.1],fun i y hy=>?_⟩;cases i with
 | zero=>simp_all
 | succ i=>exact b.2 i y (by simpa using hy)
theorem fc.slice {l:List Int} {cells:List J} (h:fc P G K l cells) {b e n c:Nat} (hk:K b (.row cells e false)) (d:l.length=n) (hc:n<=c) (hl:n<=9223372036854775807):bG K 1 (uQ P G K) l (.slice b 0 n (.known c)):=by
 subst d;refine .inr ⟨b,0,_,cells,e,false,Z,.inr ⟨_,Z,hc⟩,hk,by rw[h.1];omega,hl,fun i x hx=>?_⟩;obtain⟨c,hc,m⟩:=h.2 i x hx
 have:(cells.drop (0+i*1)).take 1= [c]:=by
  obtain⟨aa,rfl⟩:=gA.1 hc
  grind [List.drop_eq_getElem_cons]
 rw[this];exact m
theorem nm {f:Nat} {args:List J} {V:N} {M L:Own} {u:J} (h:aW P G f args V fun v V'=>v=u/\St V' (K.ml M) L):aW P G f args V fun v V'=>v=u/\St V' K L:=
 h.mono fun _ _ ⟨a,b⟩=>⟨a,b.weaken<|K.dX M⟩
theorem bN {ev:Operand->Option J} {V:N} {t e:TypeId} {len m:Nat} {parts:Array (Nat×Operand)} {z cs:List J} (d:P.underlying t=some (.slice e)) (hj:(P.info? e).map (·.size)=some m) (hz:(eQ P e).bind cd=some z)
  (hb:(Nat.beq (di z) m && Nat.ble (len*m) 16777216 && Nat.ble 1 m)=true) (hf:jA (fun i=>some (i*m,m)) ev parts.toList (ec z len)=some cs):dM P G ev V (.buildSlice t len parts)= .val (.slice V.next 0 len (.known len)) (V.alloc (.row cs e false)):=by
 refine qo (mk:=.slice len len) Z ?_;obtain⟨j,b,rfl⟩:=oM_.1 hj;simp only[eZ,d,b,hz,hb,cond_true,hf]
end
section
variable {P:Program} {G:Cx} {n:Nat} {t:PT J} {V:N} {K:KP} {L:Own} {Q:Ex->PT J->N->Prop} {ops:Array Oper} {o:Oper} {l:List Oper} {ix:Nat} {lp:List (Nat×List Nat)}
end
theorem dD (k:IntKind) (n:Int):dL (.int k n) (.int k n)=true:=by
 unfold Go.Ev.dL;exact fq k n
theorem bG.dL {α:Type} {K:KP} {m:Nat} {R:α->List J->Prop} {l:List α} {v:J} (h:bG K m R l v):Go.Ev.dL v v=true:=by
 have hb:=h.lf;rcases h with ⟨_,rfl⟩ | ⟨b,off,c,cells,e,ro,rfl,hc,_⟩<;>exact hb
def eK (x y:Int):Int:=bif dy x y then-1 else bif dy y x then 1 else 0
def Bj:List Int->Int
 | []=>0
 | x::l=>bif bM x 0 then Bj l else x
def dS {α:Type} (c:α->α->Int):List α->List α->Int
 | [],[]=>0
 | [],_::_=>-1
 | _::_,[]=>1
 | x::l,y::m=>bif bM (c x y) 0 then dS c l m else c x y
theorem N2 (n:Int):(bif bM n n then false else true)=false:=by rw[dv];simp
theorem mM {α:Type} {c:α->α->Int}:∀{l m:List α} {i:Nat} {x:α},l[i]? =some x->m.length<=i->dS c (l.drop i) (m.drop i)=1:=by
 intro l m i x h hm;rw[cz h,ff hm];rfl
theorem mL {α:Type} {c:α->α->Int} {l m:List α} {i:Nat} (h:l.length<=i) (hm:i<=l.length) (hl:l.length<m.length):dS c (l.drop i) (m.drop i)= -1:=by
 obtain⟨y,hy⟩:=bZ (show i<m.length by omega);rw[ff h,cz hy];rfl
theorem ow {α:Type} {c:α->α->Int} {l m:List α} {i:Nat} (h:l.length<=i) (hl:m.length<=l.length):dS c (l.drop i) (m.drop i)=0:=by
 rw[ff h,ff oM];rfl
theorem mN {α:Type} {c:α->α->Int} {l m:List α} {i:Nat} {x y:α} (hx:l[i]? =some x) (hy:m[i]? =some y) (h:bM (c x y) 0=true):dS c (l.drop i) (m.drop i)=dS c (l.drop (i+1)) (m.drop (i+1)):=by
 rw[cz hx,cz hy];show(bif bM (c x y) 0 then _ else _)=_;rw[h];rfl
theorem mO {α:Type} {c:α->α->Int} {l m:List α} {i:Nat} {x y:α} (hx:l[i]? =some x) (hy:m[i]? =some y) (h:bM (c x y) 0=false):dS c (l.drop i) (m.drop i)=c x y:=by
 rw[cz hx,cz hy];show(bif bM (c x y) 0 then _ else _)=_;rw[h];rfl
def iC {α:Type} (a b:List α):Int:=eK (.ofNat a.length) (.ofNat b.length)
def ou (a b:cQ):Int:=Bj [eK a.cq b.cq,eK a.index b.index]
def nO (a b:cU):Int:=Bj [eK a.kind b.kind,eK a.loc b.loc,eK a.order b.order,eK a.read b.read,eK a.write b.write]
def iB (a b:List cQ):Int:=Bj [iC a b,dS ou a b]
def dQ (a b:XG):Int:=Bj [iC a.threads b.threads,dS iC a.threads b.threads,dS (dS nO) a.threads b.threads,iC a.from_ b.from_,dS iB a.from_ b.from_,iC a.order b.order,dS iB a.order b.order,iC a.init b.init,dS eK a.init b.init]
end Go.Ev
end
