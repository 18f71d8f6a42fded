/- Part of the proof: an evaluator of the model's code, rules for walks on it, walks. Without conditions. -/
import Derived.Test.YtpomgjnfncgkgaaGreatDoorEa
import Derived.RecoverIn
import Derived.TacticsIn
import Derived.OrdersIn
import Derived.Sort.LoopGhostIn
import Derived.Scope
import Derived.ProofKit
import Derived.LaidSub
import Derived.KernelRfl
set_option linter.unusedSectionVars false
set_option linter.unusedVariables false
set_option linter.unusedSimpArgs false
noncomputable section
namespace Go.Ev
variable [Env]
theorem wg {p q:Pos} (h:dZ.beqP p q=true):p=q:=nB h
theorem LA {c d:qf} (h:dZ.beqC c d=true):c=d:=by
 unfold dZ.beqC at h
 grind [nB]
theorem F7 {x y:V} (h:dZ.eI x y=true):x=y:=by
 unfold dZ.eI at h;split at h
 ·grind
 ·rw[bA_,dE,decide_eq_true_eq] at h;rw[qp h.1,h.2]
 ·rw[mQ,decide_eq_true_eq] at h;rw[h]
 ·rfl
 ·simp_all
 ·rw[bA_] at h;rw[wg h.1,nB h.2]
 ·rfl
 ·simp only[bA_] at h;grind [wg,nB,LA]
 ·rfl
 ·rw[wg h]
 ·rfl
 ·rfl
 ·simp_all
 ·simp only[bA_] at h;grind [nB,wg]
 cases h
theorem we:∀{xs ys:List V},dZ.beqL xs ys=true->xs=ys
 | [],[],_=>rfl
 | [],_::_,h=>by cases h
 | _::_,[],h=>by cases h
 | x::xs,y::ys,h=>by
  have h':(bif dZ.eI x y then dZ.beqL xs ys else false)=true:=h;rw[bL] at h';split at h'
  ·rename_i hb;rw[F7 hb,we h']
  cases h'
theorem Lz {x y:V} (h:dZ x y=true):x=y:=by
 unfold dZ at h;split at h
 ·rw[we h]
 exact F7 h
theorem Fa (E:Nat->TypeId) {l:List (Nat×List V)} {b:Nat} {o:cM} (h:(JT l E).get b=some o):∃x∈l,x.1=b/\o= .row x.2 (E x.1) true:=by
 have key:∀(l:List (Nat×List V)) (m:PT cM),(l.foldl (fun m x=>m.put (some (.row x.2 (E x.1) true)) (posOf x.1)) m).get b=some o->(∃x∈l,x.1=b/\o= .row x.2 (E x.1) true)∨m.get b=some o:=by
  intro l;induction l with
  | nil=>simp_all
  | cons x l ih=>
   intro m h;rcases ih _ h with ⟨y,h1,h2⟩ | h
   ·grind
   rw[PT.ml] at h
   grind
 rcases key l _ h with h | h
 ·exact h
 rw[PT.mS] at h;cases h
section
variable {P:Program} {G:Cx} {S:dg} {U:I} {w:World}
theorem Df (A:∀g,G.ov g=true->su P g) {ev:Operand->Option V} {f:Operand->Value} {o:Oper} {r:HR} (hi:Inv S U w) (z:ER S ev f o.op) (h:dX P G ev U o.op=r) (u:∀n,r≠ .err n):yU P S U w r ((execOp f o).run P w):=by
 subst h;unfold dX at u⊢;cases hk:kindOf P o.op with
 | pure=>
  rw[hk] at u;dsimp only at u⊢;cases hp:di P ev o.op with
  | none=>simp_all
  | some v=>
   obtain⟨x,hx,hv⟩:=yc (P:=P) (w:=w) z hp;rw[hx];exact .val hv hi<|fj.refl S U w
 | read=>
  rw[hk] at u;dsimp only at u⊢;cases hp:hJ P ev U o.op with
  | none=>simp_all
  | some v=>
   obtain⟨x,hx,hv⟩:=yg (P:=P) hi z hp;rw[hx];exact .val hv hi<|fj.refl S U w
 | alloc=>
  rw[hk] at u;dsimp only at u⊢;cases hp:fO P ev o.op with
  | none=>simp_all
  | some p=>
   obtain⟨ob,mk⟩:=p;obtain⟨x,ob',n,hx,aa,C,hv⟩:=vf (P:=P) (w:=w) z hp;obtain⟨inv,st⟩:=hi.alloc (l:=⟨w.heap.size,0,n⟩) Z C;rw[hx];exact .val (hv _ _<|dg.da _ _ _) inv st
 | kN=>
  rw[hk] at u;exact CQ A hi z Z u
theorem vH {ev:Operand->Option V} {o:Oper} (u:∀n,dX P G ev U o.op≠ .err n) (c:Call):o.op≠ .defer c:=by
 intro e;rw[e] at u;exact u 16 Z
def OM (S:dg):Md->FrameMode->Prop
 | .ret,u=>u= .returning
 | .m9 v,u=>∃x,u= .panicking [{v:=x,recovered:=false}]/\VR S v x
 | .QM v,u=>∃x,u= .panicking [{v:=x,recovered:=true}]/\VR S v x
theorem OM.mono {S S':dg} (h:S.le S'):∀{md:Md} {u:FrameMode},OM S md u->OM S' md u
 | .ret,_,h'=>h'
 | .m9 _,_,⟨x,h1,z⟩=>⟨x,h1,VR.mono h _ _ z⟩
 | .QM _,_,⟨x,h1,z⟩=>⟨x,h1,VR.mono h _ _ z⟩
theorem vF {ih:lD} (hS:Sound P G ih) {fn:Func} {m:Nat} {tmps:Array Value} {R:Ending->World->Prop}:∀(d:List DE) (ds:List Deferred) (md:Md) (U:I) (z:Md) (A:I) (S:dg) (w:World) (u:FrameMode),xK P G ih d md U=some (z,A)->DR S d ds->Inv S U w->GR S G->OM S md u->
  (∀(S':dg) (w':World) (u':FrameMode),Inv S' A w'->fj S U w S' A w'->OM S' z u'->LeavesIn Fence.wide m P fn tmps R [] u' w')->LeavesInM Fence.wide m P fn tmps R ds u w
 | [],ds,md,U,z,A,S,w,u,h,C,hi,E,hm,hk=>by
  have h':some (md,U)=some (z,A):=h;cases h';have:ds= []:=C;subst this;exact hk S w u hi (fj.refl S U w) hm
 | _::_,ds,md,U,z,A,S,w,u,h,C,hi,E,hm,hk=>by cases h
theorem ur {ih:lD} (F:Sound P G ih) {fn:Func} {m n:Nat} {t:PT V} {d:List DE} {md:Md} {r:KR} {a:Act} {u:FrameMode} {R:Ending->World->Prop} (h:y7 P G ih fn md t d U=r) (aa:∀n,r≠ .err n) (hi:Inv S U w) (K:GR S G) (W:TR S t n a.tmps) (L:DR S d a.defers) (hm:OM S md u)
  (M:∀(S':dg) (w':World) (E:Ending),Inv S' r.heap w'->fj S U w S' r.heap w'->OV S' r E->R E w'):LeavesInM Fence.wide m P fn a.tmps R a.defers u w:=by
 unfold y7 at h;cases hl:xK P G ih d md U with
 | none=>grind
 | some q=>
  obtain⟨C,X⟩:=q;rw[hl] at h;cases C with
  | ret=>
   dsimp only at h;cases Q:fg P fn t X with
   | none=>grind
   | some v=>
    rw[Q] at h;subst h;refine vF F d a.defers md U _ _ S w u hl L hi K hm fun S' w' u' A st' z=>?_
    have z:u'= .returning:=z;subst z;obtain⟨x,hx,hv⟩:=zg (P:=P) A (W.mono<|st'.le hi) Q;exact⟨x,hx,M S' w' _ A st' ⟨x,Z,hv⟩⟩
  | m9 v=>
   dsimp only at h;subst h;refine vF F d a.defers md U _ _ S w u hl L hi K hm fun S' w' u' A st' z=>?_
   obtain⟨x,rfl,hv⟩:=z;exact M S' w' _ A st' ⟨x,Z,hv⟩
  | QM v=>grind
theorem zr {ih:lD} (L:Sound P G ih) {f:Nat} {args:List V} {xs:Array Value} {r:KR} (h:lG P G ih f args U=r) (F:∀n,r≠ .err n) (hi:Inv S U w) (M:GR S G) (hx:dt S args xs.toList)
  (rl:Option Nat) (m:Nat) {R:Ending->World->Prop} (W:∀(S':dg) (w':World) (E:Ending),Inv S' r.heap w'->fj S U w S' r.heap w'->OV S' r E->R E w'):CallsIn (pw rl) m P f xs w R:=by
 refine sM rl ?_;unfold lG at h;cases hf:P.funcs[f]? with
 | none=>grind
 | some fn=>
 rw[hf] at h;dsimp only at h;cases hb:fn.body with
 | none=>grind
 | some c=>
 cases X:r6 fn.ntmps args with
 | none=>grind
 | some t=>
 rw[hb,X] at h;dsimp only at h;refine callsIn_of_wp_marks hf hb trivial ?_;have ht:=Em X hx;cases hc:ih c t fn.ntmps [] none U with
 | err k=>grind
 | ok e t' d' U1=>
  rw[hc] at h;have hcode:=fun(Q:Exit->Act->World->Prop) hQ=>L.run c t fn.ntmps [] none U e t' d' U1 hc S w {tmps:=xs++Array.replicate (fn.ntmps-xs.size) undef,defers:=[]} none m Q hi M ht Z trivial hQ
  cases e with
  | normal=>
   refine hcode _ fun S' w' a' z st A C E u=>?_
   have u:E= .normal:=u;subst u;exact ur L h F z (M.mono<|st.le hi) A C (md:=.ret) Z fun K w₂ E i₂ s₂ u=>W K w₂ E i₂ (st.trans s₂) u
  | ret=>
   refine hcode _ fun S' w' a' z st A C E u=>?_
   have u:E= .ret:=u;subst u;exact ur L h F z (M.mono<|st.le hi) A C (md:=.ret) Z fun K w₂ E i₂ s₂ u=>W K w₂ E i₂ (st.trans s₂) u
  | m9 v=>
   refine hcode _ fun S' w' a' z st A C E u=>?_
   obtain⟨x,rfl,hv⟩:=u;exact ur L h F z (M.mono<|st.le hi) A C (md:=.m9 v) ⟨x,Z,hv⟩ fun K w₂ E i₂ s₂ u=>W K w₂ E i₂ (st.trans s₂) u
  | exit i=>grind
  | goto i=>grind
theorem nu {ih:lD} (u:Sound P G ih) {f:Nat} {args:List V} {xs:Array Value} {U':I} {v:V} (h:lG P G ih f args U= .ret v U') (hi:Inv S U w) (z:GR S G) (hx:dt S args xs.toList)
  (rl:Option Nat) (m:Nat) {R:Ending->World->Prop} (A:∀(S':dg) (w':World) (x:Value),Inv S' U' w'->fj S U w S' U' w'->VR S' v x->R (.returned x) w'):CallsIn (pw rl) m P f xs w R:=
 zr u h (fun n h=>by cases h) hi z hx rl m fun S' w' E i s ⟨x,C,hv⟩=>by subst C;exact A S' w' x i s hv
theorem oy {S S':dg} {v:V} {x:Value} (h:nC v=true) (hv:VR S v x):VR S' v x:=by
 cases v<;>first | (simp[nC] at h;done) | (simp only[VR] at hv⊢;exact hv)
theorem s9 {v:V} {l:List V} (h:eO (v::l)=true):nC v=true/\eO l=true:=by
 have h':(bif nC v then eO l else false)=true:=h
 simp_all
theorem lE:∀{l:List V},eO l=true->∀v∈l,nC v=true
 | [],_,v,hv=>by cases hv
 | x::l,h,v,hv=>by
  obtain⟨h1,u⟩:=s9 h;rcases mQ_.1 hv with rfl | hv
  ·exact h1
  exact lE u v hv
theorem uZ {S S':dg}:∀{vs:List V} {xs:List Value},eO vs=true->dt S vs xs->dt S' vs xs
 | [],xs,_,h=>by rw[h.fb];exact dt.nil
 | v::vs,xs,h,hv=>by
  obtain⟨h1,u⟩:=s9 h;obtain⟨x,r,rfl,z,h4⟩:=hv.cons_inv;exact dt.cons (oy h1 z)<|uZ u h4
theorem HF {x y:V} (h:AQ x y=true):x=y:=by
 unfold AQ at h;split at h
 ·grind
 ·rw[bA_,dE,decide_eq_true_eq] at h;rw[qp h.1,h.2]
 ·rw[mQ,decide_eq_true_eq] at h;rw[h]
 ·rfl
 ·rfl
 ·rfl
 ·rfl
 ·rfl
 cases h
theorem po:∀{xs ys:List V},lk xs ys=true->xs=ys
 | [],[],_=>rfl
 | [],_::_,h=>by cases h
 | _::_,[],h=>by cases h
 | x::xs,y::ys,h=>by
  have h':(bif AQ x y then lk xs ys else false)=true:=h;rw[bL] at h';split at h'
  ·rename_i hb;rw[HF hb,po h']
  cases h'
theorem tL (v:V):∀(n:Nat),GQ n v=List.replicate n v
 | 0=>rfl
 | n+1=>by show v::GQ n v=_;rw[tL v n,List.replicate_succ]
theorem kJ.inv {w w':World} (hk:kJ w w') (hi:Inv S U w):Inv S U w'/\fj S U w S U w':=
 hi.of ⟨⟨hi.fresh,fun b l hb=>Nat.lt_of_lt_of_le (hi.dJ b l hb) hk.size,fun b o l hb hl=>let ⟨x,hx,u⟩:=hi.obj b o l hb hl;⟨x,by rw[hk.same _<|hi.dJ b l hl];exact hx,u⟩,hi.inj⟩,
  ⟨fun _ _=>Z,nR_ _,hk.size,fun r z _=>hk.same r z,fun _ h _=>h,hk.tape,hk.os,hk.out⟩⟩
theorem Gk {b vb:Pos} {o o':cM} (x:Pos):(ft U b o vb o').m.get x=if x=vb then some o' else if x=b then some o else none:=by
 unfold ft;rw[PT.ml,PT.ml,PT.mS]
theorem MT (hi:Inv S U w) {b vb:Pos} {o o₁ o':cM} {l:Loc} (hb:U.m.get b=some o) (aa:U.m.get vb=some o') (hl:S b=some l) (ab:o.ro=o₁.ro)
  (ho:∀x,iN S l o x->iN S l o₁ x):Inv S (ft U b o₁ vb o') w:=by
 have back:∀x q,(ft U b o₁ vb o').m.get x=some q->∃q',U.m.get x=some q'/\q.ro=q'.ro/\((x=b/\q=o₁)∨q=q'):=fun x q h=>by
  rw[Gk] at h
  grind
 refine⟨⟨fun x hx=>⟨(hi.fresh x hx).1,?_⟩,hi.dJ,fun x q lx hx u=>?_,fun x y q r lx ly hx hy u z he A=>?_⟩,hi.sk.size,hi.sk.same,fun r F ⟨x,q,l',h1,C,E,h4⟩=>?_⟩
 ·cases hq:(ft U b o₁ vb o').m.get x with
  | none=>rfl
  | some q=>
   obtain⟨q',h',_⟩:=back x q hq;rw[(hi.fresh x hx).2] at h';cases h'
 ·obtain⟨q',h',_,h''⟩:=back x q hx;obtain⟨y,hy,F⟩:=hi.obj x q' lx h' u
  grind
 ·obtain⟨q',h1,C,_⟩:=back x q hx;obtain⟨r',E,h4,_⟩:=back y r hy;rw[C,h4];exact hi.inj x y q' r' lx ly h1 E u z he A
 obtain⟨q',h5,K,_⟩:=back x q h1;exact hi.sk.no r F ⟨x,q',l',h5,by rw[<-K];exact C,E,h4⟩
theorem HT (hi:Inv S U w) {b vb:Pos} {cells cells' vc:List V} {e ve:Nat} {l lv:Loc} (hb:U.m.get b=some (.row cells e false)) (M:U.m.get vb=some (.row vc ve false)) (X:S b=some l) (A:S vb=some lv)
  (ar:b≠vb) {R:dg} {U1:I} {w₁:World} (i₁:Inv R U1 w₁) (s₁:fj S (ft U b (.row cells' e false) vb (.row vc ve false)) w R U1 w₁) {b₁:Pos} {l₁:Loc} {cs₁:List V} {o₁ k:Nat}
  (g₁:U1.m.get b₁=some (.row cs₁ e false)) (hl₁:R b₁=some l₁) (gv:U1.m.get vb=some (.row vc ve false)) (hne₁:b₁≠vb) (aK:eO vc=true) (hk:o₁+k<=cs₁.length) (a0:eO ((cs₁.drop o₁).take k)=true):
  Ay (S.with U.next ⟨l₁.dJ,l₁.sh+o₁,l₁.cells-o₁⟩) ((U.drop b).alloc (.row ((cs₁.drop o₁).take k) e false)) w₁/\
   fj S U w (S.with U.next ⟨l₁.dJ,l₁.sh+o₁,l₁.cells-o₁⟩) ((U.drop b).alloc (.row ((cs₁.drop o₁).take k) e false)) w₁:=by
 have hle:=hi.wy ⟨l₁.dJ,l₁.sh+o₁,l₁.cells-o₁⟩;have Q:((U.drop b).alloc (.row ((cs₁.drop o₁).take k) e false)).m.get U.next=some (.row ((cs₁.drop o₁).take k) e false):=PT.dz _ _ _
 have ap:∀x,x≠U.next->((U.drop b).alloc (.row ((cs₁.drop o₁).take k) e false)).m.get x=if x=b then none else U.m.get x:=fun x hx=>by
  show((U.m.put none b).put _ U.next).get x=_;rw[PT.du _ _ _ _ hx,PT.ml]
 have sk:∀x q,x≠U.next->((U.drop b).alloc (.row ((cs₁.drop o₁).take k) e false)).m.get x=some q->x≠b/\U.m.get x=some q:=fun x q hx h=>by
  simp_all
 have hold:∀x lx,x≠U.next->(S.with U.next ⟨l₁.dJ,l₁.sh+o₁,l₁.cells-o₁⟩) x=some lx->S x=some lx:=fun x lx hx h=>by rwa[dg.dU S _ hx] at h
 have ac:∀x:Pos,x.num<U.next.num->x≠U.next:=fun x hx e=>by simp_all
 have aa:∀r,Wr S (ft U b (.row cells' e false) vb (.row vc ve false)) r->r=l.dJ∨r=lv.dJ:=fun r ⟨x,q,lx,h1,K,E,h4⟩=>by
  rw[Gk] at h1
  grind
 have wrs:∀r,Wr S (ft U b (.row cells' e false) vb (.row vc ve false)) r->Wr S U r:=fun r h=>by
  rcases aa r h with rfl | rfl
  ·exact⟨b,_,l,hb,Z,X,Z⟩
  exact⟨vb,_,lv,M,Z,A,Z⟩
 have away:∀x q lx,x≠b->x≠vb->U.m.get x=some q->S x=some lx->lx.dJ≠l.dJ/\lx.dJ≠lv.dJ:=fun x q lx h1 K E h4=>by
  constructor
  ·intro he;have:=(hi.inj x b q _ lx l E hb h4 X he h1).2;simp[cM.ro] at this
  intro he;have:=(hi.inj x vb q _ lx lv E M h4 A he K).2;simp[cM.ro] at this
 have aq:∀x q lx,x≠b->U.m.get x=some q->S x=some lx->lx.dJ≠l₁.dJ:=fun x q lx h1 E h4 he=>by
  have hlt:=hi.dJ x lx h4;have hw:Wr R U1 lx.dJ:=⟨b₁,_,l₁,g₁,Z,hl₁,he.symm⟩
  by_cases K:x=vb
  ·subst K;rw[A] at h4;cases h4;have F:R x=some lv:=s₁.ext x (hi.Fj A) |>.trans A;have:=(i₁.inj b₁ x _ _ l₁ lv g₁ gv hl₁ F he.symm hne₁).1;simp[cM.ro] at this
  obtain⟨a1,a2⟩:=away x q lx h1 K E h4;rcases aa _ (s₁.wr _ hw hlt) with h | h
  ·exact a1 h
  exact a2 h
 have flatObj:∀{l':Loc} {c:List V} {e':Nat} {y:Obj} {Sa Sb:dg},eO c=true->iN Sa l' (.row c e' false) y->iN Sb l' (.row c e' false) y:=fun hc ho=>by
  obtain⟨c',fr,h1,K,E,h4,h5⟩:=ho;exact⟨c',fr,h1,K,E,fun i v hv=>let ⟨z,hz,ae⟩:=h4 i v hv;⟨z,hz,oy (lE hc v<|gB_ hv) ae⟩,h5⟩
 constructor
 ·refine⟨fun x hx=>?_,fun x lx u=>?_,fun x q lx hx u=>?_,fun x y q r lx ly hx hy u am he ab=>?_⟩
  ·have L:U.next.num+1<=x.num:=by simpa [I.alloc,I.drop,Pos.jv] using hx
   have C:x≠U.next:=fun e=>by subst e;omega
   have hf:=hi.fresh x B
   grind [dg.dU]
  ·by_cases C:x=U.next
   ·subst C;rw[dg.da] at u;cases u;exact i₁.dJ b₁ l₁ hl₁
   exact Nat.lt_of_lt_of_le (hi.dJ x lx<|hold x lx C u) s₁.size
  ·by_cases C:x=U.next
   ·subst C;rw[Q] at hx;rw[dg.da] at u;cases hx;cases u;obtain⟨c,fr,h1,K,E,h4,h5⟩:=i₁.row g₁ hl₁;refine⟨_,h1,c,fr,Z,?_,?_,fun i v hv=>?_,fun _ j hj=>h5 Z j (by grind)⟩
    ·grind
    ·grind
    grind [oy,lE]
   obtain⟨a3,L⟩:=sk x q C hx;have hlx':=hold x lx C u
   by_cases ao:x=vb
   ·subst ao;rw[M] at L;cases L;rw[A] at hlx';cases hlx';have F:R x=some lv:=(s₁.ext x<|hi.Fj A).trans A;obtain⟨y,hy,W⟩:=i₁.obj x _ lv gv F
    grind
   obtain⟨y,hy,W⟩:=hi.obj x q lx L hlx';refine⟨y,?_,W.mono hle⟩;rw[s₁.frame _ (hi.dJ x lx hlx') (fun h=>?_)]
   ·exact hy
   grind
  by_cases e1:x=U.next<;>by_cases e2:y=U.next
  ·simp_all
  ·grind [dg.da]
  ·grind [dg.da]
  exact hi.inj x y q r lx ly (sk x q e1 hx).2 (sk y r e2 hy).2 (hold x lx e1 u) (hold y ly e2 am) he ab
 refine⟨fun x hx=>dg.dU S _ (ac x hx),by simp[I.alloc,I.drop,Pos.jv],s₁.size,fun r W hn=>s₁.frame r W fun h=>hn (wrs r h),?_,s₁.tape,s₁.os,s₁.out⟩;rintro r ⟨x,q,lx,h1,K,E,rfl⟩ W
 by_cases e1:x=U.next
 ·subst e1;rw[dg.da] at E;cases E;exact wrs _ (s₁.wr _ ⟨b₁,_,l₁,g₁,Z,hl₁,Z⟩ W)
 exact⟨x,q,lx,(sk x q e1 h1).2,K,hold x lx e1 E,Z⟩
theorem E7 (hi:Inv S U w) {b vb:Pos} {cells cells' vc:List V} {e ve:Nat} {l lv:Loc} (hb:U.m.get b=some (.row cells e false)) (z:U.m.get vb=some (.row vc ve false)) (A:S b=some l) (C:S vb=some lv)
  (E:b≠vb) {F:dg} {u:I} {w₁:World} (i₁:Inv F u w₁) (s₁:fj S (ft U b (.row cells' e false) vb (.row vc ve false)) w F u w₁) {b₁:Pos} {l₁:Loc} {cs₁:List V} {o₁ k:Nat}
  (g₁:u.m.get b₁=some (.row cs₁ e false)) (hl₁:F b₁=some l₁) (gv:u.m.get vb=some (.row vc ve false)) (hne₁:b₁≠vb) (K:eO vc=true) (hk:o₁+k<=cs₁.length) (L:eO ((cs₁.drop o₁).take k)=true):
  Inv (S.with U.next ⟨l₁.dJ,l₁.sh+o₁,l₁.cells-o₁⟩) ((U.drop b).alloc (.row ((cs₁.drop o₁).take k) e false)) w₁/\
   fj S U w (S.with U.next ⟨l₁.dJ,l₁.sh+o₁,l₁.cells-o₁⟩) ((U.drop b).alloc (.row ((cs₁.drop o₁).take k) e false)) w₁:=hi.of (HT hi hb z A C E i₁ s₁ g₁ hl₁ gv hne₁ K hk L)
theorem Fi {r:KR} {v:V} {U':I} (h:sS r= .ret v U'):r= .ret v U':=by
 unfold sS at h
 grind
theorem Fh (r:KR) (v:V) (U':I):sS r≠ .m9 v U':=by
 unfold sS
 grind
theorem EY {ih:lD} (hS:Sound P G ih) {f:Nat} {args:List V} {xs:Array Value} {U':I} {v:V} (h:Gj P G ih f args U= .ret v U') (hi:Inv S U w) (hg:GR S G) (hx:dt S args xs.toList)
  (rl:Option Nat) (m:Nat) {R:Ending->World->Prop} (hR:∀(S':dg) (w':World) (x:Value),Inv S' U' w'->fj S U w S' U' w'->VR S' v x->R (.returned x) w'):CallsIn (pw rl) m P f xs w R:=by
 unfold Gj at h;split at h
 ·rename_i b off n sz i vb voff q mc;split at h
  ·rename_i cells e vc ve hb K;rw[bL] at h;split at h
   ·rename_i hc;simp only[bA_,nE_,Nat.beq_eq,bP] at hc;obtain⟨L,a9,ae,bb,am,hlen⟩:=hc;subst ae;have M:b≠vb:=fun e=>by subst e;rw[pO] at L;simp at L
    split at h
    ·rename_i n1 r1 n2 r2 ao ap;rw[bL] at h;split at h
     ·rename_i hq;rw[bA_] at hq;have en:=nB hq.1;have er:=po hq.2;subst en;subst er;cases h;obtain⟨x1,rr,e1,hs,aq⟩:=hx.cons_inv;obtain⟨x2,rr',rfl,bc,ar⟩:=aq.cons_inv;obtain⟨x3,rr'',rfl,aK,a0⟩:=ar.cons_inv;have:=a0.fb;subst this;simp only[VR] at hs;obtain⟨l,hl,hd⟩:=hs
      have a1:∃c,x1= .slice (some ⟨l.dJ,l.sh+off,none⟩) n c/\n<=c/\off+c*sz=l.cells:=by
       grind
      obtain⟨c,rfl,be,ac⟩:=a1;have hvv':=aK;simp only[VR] at hvv';obtain⟨lv,a2,_⟩:=hvv'
      have go:∀(cells':List V) (cap:qf) (okc:qf->Nat->Bool),(∀x,iN S l (.row cells e false) x->iN S l (.row cells' e false) x)->
        rv vb vc ve e sz (lG P G ih f [.slice b off n cap,i,.slice vb voff 1 (.known mc)]<|ft U b (.row cells' e false) vb (.row vc ve false)) okc=some (n1,r1)->
        VR S (.slice b off n cap) (.slice (some ⟨l.dJ,l.sh+off,none⟩) n c)->
        (∀A z C n1 l1 E x,okc A n1=true->1<=n1->E z=some l1->VR E (.slice z C n1 A) x->∃c',x= .slice (some ⟨l1.dJ,l1.sh+C,none⟩) n1 c'/\n1<=c'/\C+c'*sz=l1.cells)->
        CallsIn (pw rl) m P f xs w R:=by
       intro cells' cap okc Q u a8 a3;unfold rv at u;split at u
       ·rename_i z C bi A σ1 F;split at u
        ·rename_i bl bo bs bt g1 gv;rw[bL] at u;split at u
         ·rename_i W;simp only[bA_,nE_,Nat.beq_eq,bP] at W;obtain⟨k1,k2,k3,k4,k5,k6,k7,k8⟩:=W;cases u;have X:z≠vb:=fun e=>by subst e;rw[pO] at k2;simp at k2
          have ev:=po k3;subst ev;subst k4;subst k5;have hiL:=MT hi (o₁:=.row cells' e false) hb K hl Z Q;refine nu hS F hiL hg ?_ rl m fun E w1 x i1 s1 aa=>?_
          ·grind [dt.cons]
          obtain⟨l1,ab⟩:∃l1,E z=some l1:=by
           cases A<;>simp only[VR] at aa
           ·grind
           ·grind
           grind
          obtain⟨c',rfl,a4,bv⟩:=a3 A z C n1 l1 E x k1 k6 ab aa;rw[dn,dM] at k8 hR;obtain⟨iJ,sJ⟩:=E7 (k:=n1*sz) hi hb K hl a2 M i1 s1 g1 ab gv X am k7 k8;refine hR _ w1 _ iJ sJ ?_;simp only[VR];refine⟨_,dg.da _ _ _,.inl ⟨c',Z,a4,?_⟩⟩
          grind
         cases u
        cases u
       cases u
      by_cases a5:c=n
      ·subst a5;refine go cells (.known c) (E6 sz) (fun _ h=>h) ao (by simp only[VR];simp_all) fun A z C n1 l1 E x h1 h2 h3 h4=>?_
       unfold E6 at h1
       grind [nB,VR]
      have a6:n+1<=c:=by omega
      refine go (im (takeN cells (off+n*sz))<|GQ sz .any) (.least (Nat.succ n) sz) (A0 sz) (fun x ho=>?_) ap (by simp only[VR];simp_all) fun A z C n1 l1 E x h1 h2 h3 h4=>?_
      ·obtain⟨cc,fr,h1,h2,h3,h4,h5⟩:=ho;have hmul:(n+1)*sz<=c*sz:=nM_ _ a6;have bw:(n+1)*sz=n*sz+sz:=Nat.succ_mul n sz;refine⟨cc,fr,h1,h2,?_,fun j v hv=>?_,h5⟩
       ·rw[dV,dn,tL,lA_,lT_,List.length_replicate];omega
       rw[dV,dn,tL] at hv
       by_cases hj:j<off+n*sz
       ·grind
       have a7:j<(cells.take (off+n*sz)++List.replicate sz V.any).length:=(gA.1 hv).1;rw[lA_,lT_,List.length_replicate] at a7;rw[gR_ (by simp_all),List.getElem?_replicate] at hv;split at hv
       ·cases hv;have:l.sh+j<cc.size:=by omega
        exact⟨cc[l.sh+j],aG_ this,by simp only[VR]⟩
       cases hv
      unfold A0 at h1;split at h1
      ·rename_i a s;rw[bA_,nE_] at h1
       grind [nB,VR]
      cases h1
     cases h
    cases h
   cases h
  cases h
 exact nu hS h hi hg hx rl m hR
theorem GR.size (hi:Inv S U w) (u:GR S G):G.gl<=w.heap.size:=by
 cases aa:G.gl with
 | zero=>exact Nat.zero_le _
 | succ g=>
  obtain⟨c,hc⟩:=u g B;have:=hi.dJ _ _ hc;exact this
theorem tA (hi:Inv S U w) (E:GR S G):∀(l:List (Nat×List V)),nY G.gl U l=true->∀x∈l,lO w x
 | [],_,x,hx=>by cases hx
 | y::l,h,x,hx=>by
  have h':(bif Nat.ble (Nat.succ y.1) G.gl then(match U.m.get y.1 with
   | some (.row cells _ true)=>bif eO y.2 then(bif lk cells y.2 then nY G.gl U l else false) else false
   | _=>false) else false)=true:=h
  rw[bL] at h';split at h'
  ·rename_i u;rw[nE_] at u;split at h'
   ·rename_i cells e hb;rw[bL] at h';split at h'
    ·rename_i hf;rw[bL] at h';split at h'
     ·rename_i he;have:=po he;subst this;rcases mQ_.1 hx with rfl | hx
      ·obtain⟨cn,hc⟩:=E x.1 u;obtain⟨c,fr,h1,F,K,h4,_⟩:=hi.row hb hc;have A:c.size=cn:=by simpa using F
       have C:x.2.length<=cn:=K;refine⟨c,e,fr,h1,by rw[A];exact C,fun i v hv=>?_⟩;obtain⟨z,L,aa⟩:=h4 i v hv;simp only[nA_] at L
       grind [oy,lE]
      exact tA hi E l h' x hx
     cases h'
    cases h'
   cases h'
  cases h'
theorem wN {ih:lD} (z:Sound P G ih) {f:Nat} {args:List V} {xs:Array Value} {U':I} {v:V} (h:mN P G ih f args U= .ret v U') (hi:Inv S U w) (A:GR S G) (hx:dt S args xs.toList)
  (rl:Option Nat) (m:Nat) {R:Ending->World->Prop} (L:∀(S':dg) (w':World) (x:Value),Inv S' U' w'->fj S U w S' U' w'->VR S' v x->R (.returned x) w'):CallsIn (pw rl) m P f xs w R:=by
 unfold mN at h;cases hk:G.II f args U with
 | some u=>
  rw[hk] at h;dsimp only at h;rw[bL] at h;split at h
  ·rename_i hf;cases h;refine sM rl<|callsIn_wide.2 ?_;refine(z.cx.II f args U v hk S w xs hi hx).mono fun e w' ⟨x,S',he,hv,i',s'⟩=>?_
   grind
  cases h
 | none=>
 rw[hk] at h;dsimp only at h;cases C:G.IL f args with
 | some u=>
  rw[C] at h;dsimp only at h;rw[bL] at h;split at h
  ·rename_i hf;simp only[bA_] at hf;obtain⟨E,F,K⟩:=hf;cases h;refine sM rl<|callsIn_wide.2 ?_;refine(z.cx.IL f args v C w xs (GR.size hi A) ⟨hi.sk.size,hi.sk.same⟩ (tA hi A _ K)<|uZ E hx).mono fun e w' ⟨x,he,hv,hk⟩=>?_
   subst he;obtain⟨i',s'⟩:=hk.inv hi;exact L S w' x i' s'<|oy F hv
  cases h
 | none=>
  rw[C] at h;dsimp only at h;split at h
  ·cases h
  rw[bL] at h;split at h
  ·have h:=Fi h;unfold qx at h;rw[bL] at h
   grind [nu,EY]
  exact nu z h hi A hx rl m L
theorem IZ {ih:lD} (z:Sound P G ih) {f:Nat} {args:List V} {xs:Array Value} {U':I} {v:V} (h:mN P G ih f args U= .m9 v U') (hi:Inv S U w) (A:GR S G) (hx:dt S args xs.toList)
  (rl:Option Nat) (m:Nat) {R:Ending->World->Prop} (C:∀(S':dg) (w':World) (x:Value),Inv S' U' w'->fj S U w S' U' w'->VR S' v x->R (.panicked [{v:=x,recovered:=false}]) w'):CallsIn (pw rl) m P f xs w R:=by
 unfold mN at h;cases hk:G.II f args U with
 | some u=>grind
 | none=>
 rw[hk] at h;dsimp only at h;split at h
 ·grind
 split at h
 ·cases h
 rw[bL] at h;split at h
 ·exact absurd h<|Fh _ _ _
 exact zr z h (fun n h=>by cases h) hi A hx rl m fun S' w' E i s ⟨x,F,hv⟩=>by subst F;exact C S' w' x i s hv
theorem HE {ih:lD} (A:Sound P G ih) {o:Oper} {r:HR} {res:Result Next} {v:V} {U':I} (hi:Inv S U w) (C:GR S G) (E:yU P S U w r res) (h:mh P G ih r= .ret v U') (rl:Option Nat) (m:Nat) {a:Act} {next:Act->World->Prop} {Q:Exit->Act->World->Prop}
  (z:∀(S':dg) (w':World) (x:Value),Inv S' U' w'->fj S U w S' U' w'->VR S' v x->next (a.put o.dst x) w'):o.uponIn (pw rl) m P a next Q res:=by
 cases E with
 | val hv u st=>
  cases h;rw[Oper.uponIn_value]
  grind
 | skip u st=>
  cases h;rw[Oper.uponIn_skip];exact z _ _ _ u st wc
 | enter hv=>
  rw[Oper.uponIn_enter];exact⟨zH rl m,wN A h hi C hv rl _ fun S' w' x i s q=>z S' w' x i s q⟩
 | round hv hl hr=>cases h
 | m9 hv=>cases h
theorem LY {ih:lD} (z:Sound P G ih) {o:Oper} {r:HR} {res:Result Next} {v:V} {U':I} (hi:Inv S U w) (A:GR S G) (C:yU P S U w r res) (h:mh P G ih r= .m9 v U') (rl:Option Nat) (m:Nat) {a:Act} {next:Act->World->Prop} {Q:Exit->Act->World->Prop}
  (E:∀(S':dg) (w':World) (x:Value),Inv S' U' w'->fj S U w S' U' w'->VR S' v x->Q (.panic [{v:=x,recovered:=false}]) a w'):o.uponIn (pw rl) m P a next Q res:=by
 cases C with
 | val hv u st=>cases h
 | skip u st=>cases h
 | enter hv=>
  rw[Oper.uponIn_enter];exact⟨zH rl m,IZ z h hi A hv rl _ fun S' w' x i s q=>E S' w' x i s q⟩
 | round hv hl hr=>cases h
 | m9 hv=>
  cases h
  grind [Oper.uponIn_panic,fj.refl]
theorem AN {ih:lD} {r:HR} {v:V} {U':I} (h:mh P G ih r= .m9 v U') (n:Nat):r≠ .err n:=by
 intro e;subst e;cases h
theorem MB {ih:lD} (u:Sound P G ih) {ev:Operand->Option V} {o:Oper} {a:Act} {v:V} {U':I} (hi:Inv S U w) (z:GR S G) (A:ER S ev a.eval o.op) (h:mh P G ih (dX P G ev U o.op)= .m9 v U') (rl:Option Nat) (m:Nat) {next:Act->World->Prop} {Q:Exit->Act->World->Prop}
  (C:∀(S':dg) (w':World) (x:Value),Inv S' U' w'->fj S U w S' U' w'->VR S' v x->Q (.panic [{v:=x,recovered:=false}]) a w'):o.wpIn (pw rl) m P a w next Q:=by
 have hne:=AN h;refine⟨fun f _=>rp rl f,?_⟩;rw[Oper.semAt_eq _ _ _<|vH hne];exact LY u hi z (Df u.cx.ov hi A Z hne) h rl m C
theorem Cz {ih:lD} {r:HR} {v:V} {U':I} (h:mh P G ih r= .ret v U') (n:Nat):r≠ .err n:=by
 intro e;subst e;cases h
theorem De {ih:lD} (u:Sound P G ih) {ev:Operand->Option V} {o:Oper} {a:Act} {v:V} {U':I} (hi:Inv S U w) (z:GR S G) (A:ER S ev a.eval o.op) (h:mh P G ih (dX P G ev U o.op)= .ret v U') (rl:Option Nat) (m:Nat) {next:Act->World->Prop} {Q:Exit->Act->World->Prop}
  (C:∀(S':dg) (w':World) (x:Value),Inv S' U' w'->fj S U w S' U' w'->VR S' v x->next (a.put o.dst x) w'):o.wpIn (pw rl) m P a w next Q:=by
 have hne:=Cz h;refine⟨fun f _=>rp rl f,?_⟩;rw[Oper.semAt_eq _ _ _<|vH hne];exact HE u hi z (Df u.cx.ov hi A Z hne) h rl m C
theorem uJ {ih:lD} (F:Sound P G ih) {ops:Array Oper} {n m:Nat} {d:List DE} (rl:Option Nat) {Q:Exit->Act->World->Prop} {e:Ex} {t':PT V} {d':List DE} {U':I}:
  ∀(l:List Oper) (i:Nat),ops.toList.drop i=l->∀(t:PT V) (U:I) (S:dg) (w:World) (a:Act),CI d (uI P G ih ops n d l t U)= .ok e t' d' U'->Inv S U w->GR S G->TR S t n a.tmps->DR S d a.defers->
   (∀(S':dg) (w':World) (a':Act),Inv S' U' w'->fj S U w S' U' w'->TR S' t' n a'.tmps->DR S' d' a'.defers->Qx Q S' e a' w')->wpOpsIn (pw rl) m P ops Q (List.range' i l.length) a w
 | [],i,hl,t,U,S,w,a,h,hi,z,u,A,C=>by
  have h':CR.ok .normal t d U= .ok e t' d' U':=h;cases h';exact C S w a hi (fj.refl _ _ _) u A _ Z
 | o::l,i,hl,t,U,S,w,a,h,hi,z,u,A,C=>by
  have K:ops[i]?=some o:=by
   rw[<-aT_];have:(ops.toList.drop i)[0]?=some o:=by rw[hl];rfl
   simpa using this
  have E:ops.toList.drop (i+1)=l:=by
   rw[<-List.drop_drop,hl];rfl
  have h':CI d (jx P G ih true ops n o t U<|uI P G ih ops n d l)= .ok e t' d' U':=h;unfold jx at h';simp only[List.length_cons,List.range'_succ,wpOpsIn,K];cases hw:bS ops t o with
  | none=>rw[hw] at h';cases h'
  | some b=>
   rw[hw] at h';rw[BR hw u];cases b with
   | false=>
    dsimp only at h';cases hp:dG t n o.dst unit with
    | none=>rw[hp] at h';cases h'
    | some t₁=>
     rw[hp] at h';simp only[Bool.false_eq_true,if_false];exact⟨fun f _=>rp rl f,uJ F rl l (i+1) E t₁ U S w _ h' hi z (u.put hp wc) (by rw[put_defers];exact A) C⟩
   | true=>
    dsimp only at h';cases he:mh P G ih (dX P G (bI G t) U o.op) with
    | err k=>rw[he] at h';cases h'
    | m9 v L=>
     rw[he] at h';have h':CR.ok (.m9 v) t d L= .ok e t' d' U':=h';cases h';simp only[if_true];refine MB F hi z (Nk _ z u) he rl m fun M w₁ x hi₁ st₁ hv=>?_
     have hle:=st₁.le hi;exact C M w₁ a hi₁ st₁ (u.mono hle) (A.mono hle) _ ⟨x,Z,hv⟩
    | ret v L=>
     rw[he] at h';dsimp only at h';cases hp:dG t n o.dst v with
     | none=>rw[hp] at h';cases h'
     | some t₁=>
      rw[hp] at h';simp only[if_true];refine De F hi z (Nk _ z u) he rl m fun M w₁ x hi₁ st₁ hv=>?_
      have hle:=st₁.le hi
      exact uJ F rl l (i+1) E t₁ L M w₁ _ h' hi₁ (z.mono hle) ((u.mono hle).put hp hv) (by rw[put_defers];exact A.mono hle)
       fun S' w' a' i' s'=>C S' w' a' i' (st₁.trans s')
end
theorem x8 {P:Program} {U U':I} (he:∀(b:Pos) (o:cM),U.m.get b=some o->U'.m.get b=some o) {u:Option TypeId} {x:Option V} {v:V} (h:sV P u U x=some v):sV P u U' x=some v:=by
 unfold sV at h⊢
 grind
theorem Ih {P:Program} {ev:Operand->Option V} {U U':I} {op:Op} {v:V} (he:∀b o,U.m.get b=some o->U'.m.get b=some o) (h:hJ P ev U op=some v):hJ P ev U' op=some v:=by
 cases op with
 | load t x=>
  grind [hJ]
 | lookup t x i ok=>
  simp only[hJ] at h⊢
  grind
 | call c=>
  grind [hJ]
 | convert src dst x=>
  simp only[hJ] at h⊢;split at h
  ·grind
  ·split at h
   ·rw[bL] at h⊢;split at h
    ·cases h
    rename_i hc;rw[if_neg hc];exact x8 he h
   cases h
  ·rw[bL] at h⊢;split at h
   ·rename_i hc;rw[if_pos hc];exact x8 he h
   cases h
  cases h
 | _=>exact h
theorem rP {ops:Array Oper} {i j:Nat}:waits ops i j=true↔∃o,ops[i]?=some o/\∃e∈o.after,Region.binds .any e=true/\e.on=j:=by
 unfold waits;cases h:ops[i]? with
 | none=>simp
 | some o=>
  simp only[Option.map_some,Option.getD_some,oJ_,exists_eq_left',bA_,beq_iff_eq,Array.any_iff_exists];constructor
  ·grind
  rintro ⟨e,he,h1⟩;obtain⟨q,hq,rfl⟩:=Array.getElem_of_mem he
  grind
structure Shape (P:Program) (ops:Array Oper) (A:Array Nat):Prop where
 dep:∀i j,waits ops i j=true->j<ops.size
 sy:∀i j,i<ops.size->j<ops.size->sy A i j=true->waits ops i j=true∨∃d,waits ops i d=true/\Ev.sy A d j=true
 uniq:∀i j k,fv ops i=some k->fv ops j=some k->i=j
 look:∀(i:Nat) (o:Oper) (j k:Nat),ops[i]?=some o->fv ops j=some k->k∈slotsOf ops o->Ev.sy A i j=true∨(gy P ops i=false/\(j=i∨Ev.sy A j i=true))
 dst:∀(i:Nat) (o:Oper),ops[i]?=some o->gy P ops i=true->∃k,o.dst=some k
theorem mP {ops:Array Oper} {i k:Nat} (h:fv ops i=some k):i<ops.size:=by
 grind [fv]
theorem jo {ops:Array Oper} {i:Nat} {o:Oper} (h:ops[i]?=some o):fv ops i=o.dst:=by simp[fv,h]
theorem kj (m i:Nat):hasB m i=m.testBit i:=by
 rw[Nat.testBit_eq_decide_div_mod_eq];show Nat.beq ((m >>> i) &&& 1) 1=_
 grind [Nat.shiftRight_eq_div_pow,Nat.beq]
theorem Og (w:Nat):Nat.beq (Nat.land w 1) 1=w.testBit 0:=by
 have:=kj w 0;exact this
theorem vj (i j:Nat):(bit i).testBit j=decide (i=j):=by
 show(1 <<< i).testBit j=_;rw[Nat.one_shiftLeft,Nat.testBit_two_pow]
theorem nF (m k j:Nat):(Nat.lor m k).testBit j=(m.testBit j || k.testBit j):=Nat.testBit_or m k j
theorem kW {j:Nat}:∀{l:List Nat},(n8 l).testBit j=true↔j∈l
 | []=>by simp[n8]
 | i::l=>by
  show(Nat.lor (bit i)<|n8 l).testBit j=true↔_;rw[nF,vj,Bool.or_eq_true,kW,mQ_,decide_eq_true_eq]
  grind
theorem Aj {m k:Nat} (h:BE m k=true) (j:Nat) (hj:m.testBit j=true):k.testBit j=true:=by
 have e:m &&& k=m:=nB h
 grind
theorem FH {m k:Nat} (h:BE m k=false):∃j,m.testBit j=true/\k.testBit j=false:=by
 apply Classical.byContradiction;intro hn
 have e:m &&& k=m:=Nat.eq_of_testBit_eq fun j=>by
  simp_all
 have:BE m k=true:=by
  show Nat.beq (m &&& k) m=true
  simp_all
 simp_all
theorem sl {j:Nat}:∀{L:List RA} {w:Nat},(xW L w).testBit j=true->∃d x,L[d]?=some x/\w.testBit d=true/\x.a.testBit j=true
 | [],w,h=>by simp[xW] at h
 | x::L,w,h=>by
  have h':(Nat.lor (@Bool.rec (fun _=>Nat) 0 x.a<|Nat.beq (Nat.land w 1) 1)<|xW L<|w >>> 1).testBit j=true:=h;rw[nF,Bool.or_eq_true,Og] at h';rcases h' with h' | h'
  ·cases hw:w.testBit 0 with
   | true=>rw[hw] at h';exact⟨0,x,Z,hw,h'⟩
   | false=>
    rw[hw] at h';have h'':(0:Nat).testBit j=true:=h';simp at h''
  obtain⟨d,y,h1,u,z⟩:=sl h';rw[Nat.testBit_shiftRight] at u;exact⟨d+1,y,by simpa using h1,by rw[Nat.add_comm];exact u,z⟩
theorem sW:∀(rows:List Row) (L:List RA),(Kp rows L).map (·.r)=L.map (·.r)++rows
 | [],L=>by show L.map (·.r)=_;simp
 | r::rows,L=>by
  show(Kp rows<|im L [⟨r,Nat.lor r.w<|xW L r.w⟩]).map (·.r)=_
  rw[sW rows,dV];simp
theorem Bn {P:Program} {ops:Array Oper} {i:Nat} {o:Oper} (h:ops[i]?=some o):∃x,(jR P ops)[i]?=some x/\x.r=yt P ops o:=by
 have e:=sW (zc (yt P ops) ops.toList) [];rw[mq] at e
 have e':((jR P ops).map (·.r))[i]?=some (yt P ops o):=by
  unfold jR;rw[mq,e];simp[h]
 simp_all
theorem Kq {P:Program} {ops:Array Oper} {i:Nat} {x:RA} (h:(jR P ops)[i]?=some x):∃o,ops[i]?=some o/\x.r=yt P ops o:=by
 have e:=sW (zc (yt P ops) ops.toList) [];rw[mq] at e
 have e':((jR P ops).map (·.r))[i]?=ops[i]?.map (yt P ops):=by
  unfold jR;rw[mq,e];simp
 grind
theorem Dt {P:Program} {ops:Array Oper} {i j:Nat} {o:Oper} (h:ops[i]?=some o):(yt P ops o).w.testBit j=true↔waits ops i j=true:=by
 rw[rP];show(n8 _).testBit j=true↔_;rw[kW,List.mem_filterMap]
 simp_all
theorem zm {α:Type} {f:Nat->α->Bool}:∀{l:List α} {i:Nat},allI f l i=true->∀(j:Nat) (x:α),l[j]?=some x->f (i+j) x=true
 | [],i,_,j,x,hx=>by simp at hx
 | y::l,i,h,j,x,hx=>by
  have h': @Bool.rec (fun _=>Bool) false (allI f l (i+1)) (f i y)=true:=h;cases hf:f i y with
  | false=>rw[hf] at h';cases h'
  | true=>
   rw[hf] at h';cases j with
   | zero=>simp at hx;subst hx;exact hf
   | succ j=>
    have:=zm h' j x (by simpa using hx);rw[show i+(j+1)=i+1+j by omega];exact this
theorem rf {α:Type} {f:Nat->α->Bool} {l:List α} (h:allI f l 0=true) (j:Nat) (x:α) (hx:l[j]?=some x):f j x=true:=by
 have:=zm h j x hx
 simp_all
theorem mL {a b:Bool} (h:(bif a then b else false)=true):a=true/\b=true:=by cases a<;>simp_all
def AA (P:Program) (ops:Array Oper):Array Nat:=((jR P ops).map (·.a)).toArray
theorem tc {P:Program} {ops:Array Oper} {i j:Nat} {x:RA} (h:(jR P ops)[i]?=some x):sy (AA P ops) i j=x.a.testBit j:=by
 unfold sy AA
 simp_all
theorem CP {P:Program} {ops:Array Oper} {i:Nat} {o:Oper} (h:ops[i]?=some o):km P ops i=(yt P ops o).h:=by unfold km;rw[h];rfl
theorem xQ {P:Program} {ops:Array Oper} {i:Nat} {o:Oper} (h:ops[i]?=some o):gy P ops i=(yt P ops o).k:=by unfold gy;rw[h];rfl
theorem Fo {i j:Nat} {x y:RA} (h:Kk i x j y=true) (u:y.r.dm=n8 y.r.d.toList):Dg i x j y=true:=by
 unfold Kk at h;cases hb:Nat.beq (Nat.land (Nat.lor x.r.dm x.r.s) y.r.dm) 0 with
 | false=>rw[hb] at h;exact h
 | true=>
  have e:(x.r.dm ||| x.r.s) &&& y.r.dm=0:=nB hb;unfold Dg;cases hy:y.r.d with
  | none=>rfl
  | some k=>
   have hk:y.r.dm.testBit k=true:=by rw[u,hy];exact kW.2 (by simp)
   have h0:((x.r.dm ||| x.r.s) &&& y.r.dm).testBit k=false:=by simp_all
   rw[Nat.testBit_and,hk,Bool.and_true,Nat.testBit_or,Bool.or_eq_false_iff] at h0
   grind [kj]
theorem KA {P:Program} {ops:Array Oper} (h:Kz (jR P ops) ops.size=true):Shape P ops (AA P ops):=by
 have key:∀i o,ops[i]?=some o->∃x,(jR P ops)[i]?=some x/\x.r=yt P ops o/\x.r.w<2 ^ ops.size/\(x.r.k=true->x.r.d.isSome=true)/\BE x.a (Nat.lor x.r.w<|xW (jR P ops) x.r.w)=true/\
   ∀j y,(jR P ops)[j]?=some y->Dg i x j y=true:=by
  intro i o u;obtain⟨x,hx,z⟩:=Bn (P:=P) u;have h1:=rf h i x hx;obtain⟨W,h1⟩:=mL h1;obtain⟨k2,h1⟩:=mL h1;obtain⟨X,h1⟩:=mL h1;refine⟨x,hx,z,?_,fun hk=>?_,X,fun j y hy=>Fo (rf h1 j y hy) (by obtain⟨o',_,C⟩:=Kq hy;rw[C];rfl)⟩
  ·rw[wh] at W;have:bit ops.size=2 ^ ops.size:=Nat.one_shiftLeft _;omega
  simp_all
 have pair:∀i o j o' k,ops[i]?=some o->ops[j]?=some o'->o'.dst=some k->(o.dst=some k->j=i)/\(k∈slotsOf ops o->sy (AA P ops) i j=true∨(gy P ops i=false/\(j=i∨sy (AA P ops) j i=true))):=by
  intro i o j o' k u F hk;obtain⟨x,hx,z,_,_,_,hp⟩:=key i o u;obtain⟨y,hy,C⟩:=Bn (P:=P) F;have h1:=hp j y hy;unfold Dg at h1;have G:y.r.d=some k:=by rw[C];exact hk
  rw[G] at h1;have K:(bif (bif hasB x.r.dm k then Nat.beq j i else true) then(bif hasB x.r.s k then(bif hasB x.a j then true else(bif x.r.k then false else(bif Nat.beq j i then true else hasB y.a i))) else true) else false)=true:=h1;obtain⟨g1,A⟩:=mL K;refine⟨fun L=>?_,fun M=>?_⟩
  ·have:hasB x.r.dm k=true:=by
    rw[kj,z];show(n8 o.dst.toList).testBit k=true;rw[kW,L];simp
   simp_all
  have:hasB x.r.s k=true:=by
   rw[kj,z];exact kW.2 M
  rw[this] at A;simp only[cond_true] at A;rw[tc hx,tc hy,xQ (P:=P) u,<-z];cases E:hasB x.a j with
  | true=>rw[kj] at E;exact .inl E
  | false=>
   rw[E] at A;simp only[cond_false] at A;cases Q:x.r.k with
   | true=>simp_all
   | false=>
    rw[Q] at A;simp only[cond_false] at A;cases hb:Nat.beq j i with
    | true=>simp_all
    | false=>rw[hb] at A;rw[kj] at A;simp_all
 refine⟨fun i j hw=>?_,fun i j hi hj E=>?_,fun i j k hi hj=>?_,fun i o j k u hj hk=>?_,fun i o u hl=>?_⟩
 ·obtain⟨o,u,_⟩:=rP.1 hw;obtain⟨x,hx,z,aa,_⟩:=key i o u;have:x.r.w.testBit j=true:=by rw[z];exact(Dt u).2 hw
  apply Classical.byContradiction
  grind [Nat.testBit_lt_two_pow,Nat.lt_of_lt_of_le,Nat.pow_le_pow_right]
 ·have u:ops[i]?=some ops[i]:=aG_ hi;obtain⟨x,hx,z,_,_,M,_⟩:=key i _ u;rw[tc hx] at E;have h1:=Aj M j E;rw[nF,Bool.or_eq_true] at h1;rcases h1 with h1 | h1
  ·rw[z] at h1;exact .inl ((Dt u).1 h1)
  obtain⟨d,y,hy,R,h3⟩:=sl h1;rw[z] at R;exact .inr ⟨d,(Dt u).1 R,by rw[tc hy];exact h3⟩
 ·have hi':=mP hi;have hj':=mP hj;have u:ops[i]?=some ops[i]:=aG_ hi'
  grind [jo]
 ·grind [mP,jo]
 obtain⟨x,hx,z,_,G,_⟩:=key i o u;rw[xQ (P:=P) u,<-z] at hl;have:=G hl;rw[z] at this;exact Option.isSome_iff_exists.1 this
def Ord (ops:Array Oper):List Nat->Prop
 | []=>True
 | i::r=>(∀j,waits ops i j=true->j∈r)/\Ord ops r
structure IQ (P:Program) (ops:Array Oper) (A:Array Nat) (i:Nat) (rc:List Nat) (done:List Nat):Prop where
 lt:i<ops.size
 new:i∉done
 dep:∀j,waits ops i j=true->j∈done
 again:km P ops i=true->∀j∈done,gy P ops j=true->sy A i j=true∨j∈rc
 alone:km P ops i=true->∀j,j<ops.size->j∉done->j≠i->∃e,waits ops j e=true/\e∉done
def F0 (P:Program) (ops:Array Oper) (A:Array Nat):List (Nat×List Nat)->List Nat->Prop
 | [],done=>∀i,i<ops.size->i∈done
 | (i,rc)::l,done=>IQ P ops A i rc done/\F0 P ops A l (i::done)
theorem wV {P:Program} {ops:Array Oper}:∀(p:List (Nat×List Nat)) (D_:Nat) (done:List Nat),(∀j,D_.testBit j=true↔j∈done)->Et (jR P ops) ops.size p D_=true->F0 P ops (AA P ops) p done
 | [],D_,done,F,h=>fun i hi=>by
  have e:D_=bit ops.size-1:=nB h;rw[<-F,e,show bit ops.size=2 ^ ops.size from Nat.one_shiftLeft _,Nat.testBit_two_pow_sub_one]
  simp_all
 | (i,rc)::l,D_,done,F,h=>by
  have h':Option.rec (motive:=fun _=>Bool) false (fun x=>bif JL (jR P ops) i rc D_ x then Et (jR P ops) ops.size l (Nat.lor D_<|bit i) else false) (nth (jR P ops) i)=true:=h;rw[eL] at h';cases hx:(jR P ops)[i]? with
  | none=>simp_all
  | some x=>
  rw[hx] at h';obtain⟨h1,Q⟩:=mL h';obtain⟨o,K,M⟩:=Kq hx;have hlt:=(aS_.1 K).1;unfold JL at h1;cases hi:hasB D_ i with
  | true=>simp_all
  | false=>
  rw[hi] at h1;obtain⟨hw,G⟩:=mL h1;refine⟨⟨hlt,fun hm=>?_,fun j hj=>?_,fun A j hj hl=>?_,fun A j hj hn aa=>?_⟩,wV l _ (i::done) (fun j=>?_) Q⟩
  ·rw[kj] at hi
   grind
  ·grind [Aj,Dt]
  ·rw[CP (P:=P) K,<-M] at A;rw[A] at G
   have C:∃o',ops[j]?=some o':=by
    cases u:ops[j]? with
    | some o'=>exact⟨o',Z⟩
    | none=>unfold gy at hl;simp_all
   obtain⟨o',u⟩:=C;obtain⟨y,hy,E⟩:=Bn (P:=P) u;have h4:=rf G j y hy;have z:hasB D_ j=true:=by rw[kj];exact(F j).2 hj
   rw[z] at h4;simp only[cond_true] at h4;rw[tc hx];cases L:hasB x.a j with
   | true=>rw[kj] at L;exact .inl L
   | false=>
    rw[L] at h4;rw[xQ (P:=P) u,<-E] at hl;rw[hl] at h4;simp only[cond_true,cond_false] at h4;rw[kj] at h4;exact .inr<|kW.1 h4
  ·rw[CP (P:=P) K,<-M] at A;rw[A] at G;have u:ops[j]?=some ops[j]:=aG_ hj;obtain⟨y,hy,E⟩:=Bn (P:=P) u;have h4:=rf G j y hy
   have z:hasB D_ j=false:=by
    grind [kj]
   rw[z] at h4;simp only[cond_false] at h4;cases hb:Nat.beq j i with
   | true=>simp_all
   | false=>
    rw[hb] at h4;simp only[cond_false] at h4
    grind [FH,Dt]
  rw[nF,vj,Bool.or_eq_true,F,mQ_,decide_eq_true_eq]
  grind
theorem L5 {P:Program} {ops:Array Oper} (h:uy P ops=true):Shape P ops (AA P ops)/\F0 P ops (AA P ops) (j1 P ops) []:=by
 obtain⟨h1,h2⟩:=mL h
 grind [KA,wV]
def Li (listed:Array Bool) (i:Nat):Prop:=listed.getD i false=true
theorem Li.lt {listed:Array Bool} {i:Nat} (h:Li listed i):i<listed.size:=by
 grind [Li]
theorem Kc {listed:Array Bool} {i:Nat} (hi:i<listed.size):listed.getD i true=false↔¬Li listed i:=by
 simp[Li,Array.getD_eq_getD_getElem?,hi]
theorem Eb {listed:Array Bool} {i j:Nat} (hi:i<listed.size):Li (listed.setIfInBounds i true) j↔j=i∨Li listed j:=by
 unfold Li;simp only[Array.getD_eq_getD_getElem?,Array.getElem?_setIfInBounds]
 grind
def dJ:V->Option Pos
 | .ptr b _=>some b
 | .slice b _ _ _=>some b
 | .map b=>some b
 | _=>none
theorem AE (mk:Mk) (b:Pos):dJ (mk.of b)=some b:=by cases mk<;>rfl
def ns (P:Program) (G:Cx) (t:PT V) (U:I) (S:dg) (lo:Nat) (ti:PT V) (o:Oper):Prop:=
 match kindOf P o.op with
 | .pure=>∃v,di P (bI G ti) o.op=some v/\∀k,o.dst=some k->t.get (posOf k)=some v
 | .read=>∃v,hJ P (bI G ti) U o.op=some v/\∀k,o.dst=some k->t.get (posOf k)=some v
 | .alloc=>∃ob mk b,fO P (bI G ti) o.op=some (ob,mk)/\U.m.get b=some ob/\S b=none/\lo<=b.num/\b.num<U.next.num/\∀k,o.dst=some k->t.get (posOf k)=some (mk.of b)
 | .kN=>False
def rS (P:Program) (G:Cx) (ops:Array Oper) (A:Array Nat) (t₀ t:PT V) (U:I) (S:dg) (lo:Nat) (i:Nat):Prop:=
 ∃o ti,ops[i]?=some o/\
  (∀k∈slotsOf ops o,∀j,sy A i j=true->fv ops j=some k->ti.get (posOf k)=t.get (posOf k))/\
  (∀k∈slotsOf ops o,(∀j,fv ops j=some k->sy A i j=false)->ti.get (posOf k)=t₀.get (posOf k))/\
  ∃bw,bS ops ti o=some bw/\(bw=false->∀k,o.dst=some k->t.get (posOf k)=some unit)/\(bw=true->ns P G t U S lo ti o)
section
variable {P:Program} {G:Cx} {ops:Array Oper} {A:Array Nat} {t₀ t t₁:PT V} {U U1:I} {S S1:dg} {lo i:Nat}
theorem xC {o:Oper} {j:Nat} {want:Bool} {k:Nat} (u:o.guard=some (j,want)) (hk:(ops[j]?).bind (·.dst)=some k):k∈slotsOf ops o:=by
 unfold slotsOf;rw[u];simp[hk]
theorem Bi {o:Oper} {k:Nat} (h:Operand.tmp k∈o.op.operands):k∈slotsOf ops o:=by
 unfold slotsOf;refine List.mem_append_left _<|List.mem_filterMap.2 ⟨.tmp k,by simpa using h,Z⟩
theorem lu {o:Oper} {ti tj:PT V} (h:∀k∈slotsOf ops o,ti.get (posOf k)=tj.get (posOf k)):bS ops ti o=bS ops tj o:=by
 grind [bS,xC]
theorem rS.Nl (hp:rS P G ops A t₀ t U S lo i) (h:∀k,(fv ops i=some k∨∃j,sy A i j=true/\fv ops j=some k)->t₁.get (posOf k)=t.get (posOf k)):rS P G ops A t₀ t₁ U S lo i:=by
 obtain⟨o,ti,u,h1,C,bw,E,h4,h5⟩:=hp;have F:∀k,o.dst=some k->t₁.get (posOf k)=t.get (posOf k):=fun k hk=>h k (.inl (by rw[jo u];exact hk))
 refine⟨o,ti,u,fun k hk j z hj=>(h1 k hk j z hj).trans (h k (.inr ⟨j,z,hj⟩)).symm,C,bw,E,fun hb k hk=>(F k hk).trans (h4 hb k hk),fun hb=>?_⟩
 grind [ns]
theorem rS.grow (hp:rS P G ops A t₀ t U S lo i) (h:∀b o,U.m.get b=some o->U1.m.get b=some o) (hn:U.next.num<=U1.next.num):rS P G ops A t₀ t U1 S lo i:=by
 obtain⟨o,ti,u,h1,z,bw,C,h4,h5⟩:=hp;refine⟨o,ti,u,h1,z,bw,C,h4,fun hb=>?_⟩
 grind [ns,Ih]
theorem rS.Rz (hp:rS P G ops A t₀ t U S lo i) (z:Shape P ops A) (h:∀b,(∃o k v,ops[i]?=some o/\kindOf P o.op= .alloc/\fv ops i=some k/\t.get (posOf k)=some v/\dJ v=some b)->S b=none->S1 b=none):rS P G ops A t₀ t U S1 lo i:=by
 obtain⟨o,ti,u,h1,C,bw,E,h4,h5⟩:=hp;refine⟨o,ti,u,h1,C,bw,E,h4,fun hb=>?_⟩;have:=h5 hb;unfold ns at this⊢;split at this
 ·exact this
 ·exact this
 ·rename_i hk;obtain⟨ob,mk,b,g1,g2,g3,g4,g5,g6⟩:=this;obtain⟨k,aa⟩:=z.dst i o u (by simp[gy,uC,u,hk])
  grind [jo,AE]
 exact this
theorem rS.again (hp:rS P G ops A t₀ t U S lo i) (hs:Shape P ops A) (h:∀k,(fv ops i=some k∨∃j,sy A i j=true/\fv ops j=some k)->t₁.get (posOf k)=t.get (posOf k))
  (h0:∀k,(∀j,fv ops j≠some k)->t₁.get (posOf k)=t₀.get (posOf k)) (C:gy P ops i=true->jJ P G ops t₁ U1 i=true)
  (hr:∀b:Pos,b.num<U.next.num->S1 b=S b) (hn:U.next.num<=U1.next.num):rS P G ops A t₀ t₁ U1 S1 lo i:=by
 have hp1:=hp.Nl h;obtain⟨o,ti,E,h1,L,bw,K,h4,h5⟩:=hp1;cases hb:bw with
 | false=>exact⟨o,ti,E,h1,L,bw,K,h4,fun M=>absurd M (by rw[hb];simp)⟩
 | true=>
  have hv:=h5 hb;subst hb;cases hk:kindOf P o.op with
  | pure=>
   refine⟨o,ti,E,h1,L,true,K,h4,fun _=>?_⟩
   grind [ns]
  | kN=>unfold ns at hv;simp_all
  | read=>
   have hl:gy P ops i=true:=by simp[gy,uC,E,hk]
   have z:∀k∈slotsOf ops o,t₁.get (posOf k)=ti.get (posOf k):=fun k u=>by
    by_cases hw:∃j,fv ops j=some k
    ·obtain⟨j,hj⟩:=hw;rcases hs.look i o j k E hj u with Q | ⟨R,_⟩
     ·grind
     simp_all
    simp_all
   have aq:=C hl;unfold jJ at aq;rw[E] at aq;dsimp only at aq;rw[lu z,K] at aq;dsimp only at aq;refine⟨o,t₁,E,fun _ _ _ _ _=>Z,fun k u hj=>(z k u).trans (L k u hj),true,by rw[lu z];exact K,fun h'=>(by cases h'),fun _=>?_⟩
   grind [ns,Lz]
  | alloc=>
   have hl:gy P ops i=true:=by simp[gy,uC,E,hk]
   have z:∀k∈slotsOf ops o,t₁.get (posOf k)=ti.get (posOf k):=fun k u=>by
    by_cases hw:∃j,fv ops j=some k
    ·obtain⟨j,hj⟩:=hw;rcases hs.look i o j k E hj u with Q | ⟨R,_⟩
     ·grind
     simp_all
    simp_all
   have aq:=C hl;unfold jJ at aq;rw[E] at aq;dsimp only at aq;rw[lu z,K] at aq;dsimp only at aq;refine⟨o,t₁,E,fun _ _ _ _ _=>Z,fun k u hj=>(z k u).trans (L k u hj),true,by rw[lu z];exact K,fun h'=>(by cases h'),fun _=>?_⟩;unfold ns at hv⊢;rw[hk] at hv⊢;dsimp only at hv⊢;obtain⟨ob,mk,b,g1,g2,g3,g4,g5,g6⟩:=hv;split at aq
   ·rename_i k W;have g6':=g6 k W;rw[g6'] at aq;dsimp only at aq;rw[hk] at aq;dsimp only at aq;have ab:S1 b=none:=by simp_all
    split at aq
    ·rename_i cs e b' Q F;split at aq
     ·rename_i cs' e' X;rw[bA_] at aq;have e1:=nB aq.1;have e2:=we aq.2;subst e1;subst e2;have aa:b'=b:=by cases mk<;>simp[Mk.of] at F<;>exact F.symm
      grind [Mk.of]
     cases aq
    ·rename_i cs e n c b' n' c' Q F;split at aq
     ·rename_i cs' e' X;simp only[bA_] at aq;have e1:=nB aq.1.1.1;have e2:=we aq.1.1.2;have e3:=nB aq.1.2;have e4:=nB aq.2;subst e1;subst e2;subst e3;subst e4;have ac:b'=b/\mk= .slice n c:=by cases mk<;>simp[Mk.of] at F<;>(simp_all)
      grind
     cases aq
    cases aq
   cases aq
end
theorem nb {t t₁:PT V} {n:Nat} {dst:Option Nat} {v:V} (h:dG t n dst v=some t₁):
  (∀k,dst≠some k->t₁.get (posOf k)=t.get (posOf k))/\(∀k,dst=some k->k<n/\t₁.get (posOf k)=some v):=by
 cases dst with
 | none=>cases h;simp_all
 | some j=>
  obtain⟨hj,rfl⟩:=uN h;refine⟨fun k hk=>PT.du _ _ _ _ (fun e=>hk (by rw[rJ e])),fun k hk=>?_⟩;cases hk;exact⟨hj,PT.dz _ _ _⟩
theorem Kn {a:Act} {dst:Option Tmp} {x:Value}:(∀k,dst≠some k->(a.put dst x).tmps.getD k undef=a.tmps.getD k undef)/\(∀k,dst=some k->k<a.tmps.size->(a.put dst x).tmps.getD k undef=x)/\(a.put dst x).tmps.size=a.tmps.size:=by
 cases dst with
 | none=>exact⟨fun _ _=>Z,(fun k hk=>by cases hk),Z⟩
 | some j=>
  refine⟨fun k hk=>?_,fun k hk u=>?_,by simp[Act.put]⟩
  ·have:j≠k:=fun e=>hk (by rw[e])
   simp[Act.put,Array.getD_eq_getD_getElem?,Array.getElem?_setIfInBounds,this]
  cases hk;simp[Act.put,Array.getD_eq_getD_getElem?,Array.getElem?_setIfInBounds,u]
theorem dh {α:Type} {x y:α} {l:List α} (h:x∈y::l):x=y∨x∈l:=mQ_.1 h
structure J_ (P:Program) (G:Cx) (ih:lD) (ops:Array Oper) (A:Array Nat) (n:Nat) (d:List DE) (fin:CR) (ρ₀:dg) (σ₀:I) (w₀:World) (t₀:PT V)
  (l:List (Nat×List Nat)) (done:List Nat) (t:PT V) (U:I) (listed:Array Bool) (S:dg) (w:World) (a:Act):Prop where
 run:kx P G ih ops n d l t U=fin
 ok:F0 P ops A l done
 inv:Inv S U w
 Nt:fj ρ₀ σ₀ w₀ S U w
 dr:DR S d a.defers
 gr:GR S G
 Nv:a.tmps.size=n
 Lo:listed.size=ops.size
 NL:∀i∈done,i<ops.size
 ord:Ord ops done
 sub:∀i,Li listed i->i∈done
 kN:∀i∈done,km P ops i=true->Li listed i
 closed:∀i j,j<ops.size->Li listed i->sy A i j=true->Li listed j
 mf:∀i j,j<ops.size->i∈done->sy A i j=true->j∈done
 OO:∀i∈done,∀k,fv ops i=some k->k<n
 Dx:∀i k v,Li listed i->fv ops i=some k->t.get (posOf k)=some v->VR S v (a.tmps.getD k undef)
 Dw:∀k v,(∀i,Li listed i->fv ops i≠some k)->t₀.get (posOf k)=some v->k<n/\VR S v (a.tmps.getD k undef)
 same:∀k,(∀i∈done,fv ops i≠some k)->t.get (posOf k)=t₀.get (posOf k)
 Dh:∀i∈done,¬Li listed i->rS P G ops A t₀ t U S σ₀.next.num i
 apart:∀i j o o' k k' v v' b,i∈done->j∈done->¬Li listed i->¬Li listed j->ops[i]?=some o->ops[j]?=some o'->kindOf P o.op= .alloc->kindOf P o'.op= .alloc->
  fv ops i=some k->fv ops j=some k'->t.get (posOf k)=some v->t.get (posOf k')=some v'->dJ v=some b->dJ v'=some b->i=j
section
variable {P:Program} {G:Cx} {ih:lD} {ops:Array Oper} {A:Array Nat} {n:Nat} {d:List DE} {fin:CR} {ρ₀:dg} {σ₀:I} {w₀:World} {t₀:PT V}
variable {l:List (Nat×List Nat)} {done:List Nat} {t:PT V} {U:I} {listed:Array Bool} {S:dg} {w:World} {a:Act}
theorem wI (u:Shape P ops A) {i:Nat} (hi:i<ops.size) (hw:∀j,waits ops i j=true->j∈done) (hd:∀i j,j<ops.size->i∈done->sy A i j=true->j∈done):∀j,j<ops.size->sy A i j=true->j∈done:=fun j hj z=>by
 rcases u.sy i j hi hj z with h | ⟨q,h1,h2⟩
 ·exact hw j h
 grind
theorem wJ (u:Shape P ops A) {i:Nat} (hi:i<ops.size) (hw:∀j,waits ops i j=true->Li listed j) (hd:∀i j,j<ops.size->Li listed i->sy A i j=true->Li listed j):∀j,j<ops.size->sy A i j=true->Li listed j:=fun j hj z=>by
 rcases u.sy i j hi hj z with h | ⟨q,h1,h2⟩
 ·exact hw j h
 grind
theorem J_.xE (F:Shape P ops A) (hj:J_ P G ih ops A n d fin ρ₀ σ₀ w₀ t₀ l done t U listed S w a) {i:Nat} {o:Oper} (C:ops[i]?=some o) (E:i∉done):
  ∀k∈slotsOf ops o,(∀j,fv ops j=some k->sy A i j=false)->t.get (posOf k)=t₀.get (posOf k):=fun k hk aa=>by
 refine hj.same k fun j u z=>?_
 rcases F.look i o j k C z hk with h | ⟨_,h | h⟩
 ·simp_all
 ·subst h;exact E u
 exact E<|hj.mf j i (aS_.1 C).1 u h
theorem J_.look (K:Shape P ops A) (hj:J_ P G ih ops A n d fin ρ₀ σ₀ w₀ t₀ l done t U listed S w a) {i:Nat} {o:Oper} {ti:PT V} (C:ops[i]?=some o) (E:¬Li listed i) (L:∀j,j<ops.size->sy A i j=true->Li listed j)
  (h1:∀k∈slotsOf ops o,∀j,sy A i j=true->fv ops j=some k->ti.get (posOf k)=t.get (posOf k)) (M:∀k∈slotsOf ops o,(∀j,fv ops j=some k->sy A i j=false)->ti.get (posOf k)=t₀.get (posOf k)):
  ∀k∈slotsOf ops o,∀v,ti.get (posOf k)=some v->k<n/\VR S v (a.tmps.getD k undef):=fun k hk v hv=>by
 by_cases hw:∃j,fv ops j=some k/\sy A i j=true
 ·obtain⟨j,u,F⟩:=hw;have hL:=L j (mP u) F;rw[h1 k hk j F u] at hv;exact⟨hj.OO j (hj.sub j hL) k u,hj.Dx j k v hL u hv⟩
 have z:∀j,fv ops j=some k->sy A i j=false:=fun j u=>by
  simp_all
 rw[M k hk z] at hv;refine hj.Dw k v (fun j hL u=>?_) hv;rcases K.look i o j k C u hk with h | ⟨_,h | h⟩
 ·simp_all
 ·subst h;exact E hL
 exact E<|hj.closed j i (aS_.1 C).1 hL h
theorem Gy {ti:PT V} {o:Oper} (u:GR S G) (h:∀k∈slotsOf ops o,∀v,ti.get (posOf k)=some v->k<n/\VR S v (a.tmps.getD k undef)):ER S (bI G ti) a.eval o.op:=fun x hx v hv=>by
 cases x with
 | tmp k=>exact(h k (Bi hx) v hv).2
 | const c=>exact kT (t:=.leaf) (n:=a.tmps.size) u ⟨Z,fun k v hk=>by rw[PT.mS] at hk;cases hk⟩ hv
 | global g=>exact kT (t:=.leaf) (n:=a.tmps.size) u ⟨Z,fun k v hk=>by rw[PT.mS] at hk;cases hk⟩ hv
 | func f=>exact kT (t:=.leaf) (n:=a.tmps.size) u ⟨Z,fun k v hk=>by rw[PT.mS] at hk;cases hk⟩ hv
theorem vG {ti:PT V} {o:Oper} {b:Bool} (u:a.tmps.size=n) (h:∀k∈slotsOf ops o,∀v,ti.get (posOf k)=some v->k<n/\VR S v (a.tmps.getD k undef)) (hw:bS ops ti o=some b):Region.wanted o (yielded ops a.tmps)=b:=
 Aq hw fun j want k z hk v hv=>by
  have:=h k (xC z hk) v hv;rw[u];exact this
theorem J_.ahead (hs:Shape P ops A) {i:Nat} {rc:List Nat} (hj:J_ P G ih ops A n d fin ρ₀ σ₀ w₀ t₀ ((i,rc)::l) done t U listed S w a) (hl:km P ops i=false) {o:Oper} (ho:ops[i]?=some o) {v:V} {t₁:PT V} {F:I}
  (hp:dG t n o.dst v=some t₁) (L:kx P G ih ops n d l t₁ F=fin) (hinv:Inv S F w) (aq:fj S U w S F w) (M:∀b o,U.m.get b=some o->F.m.get b=some o)
  (ap:∀b,dJ v=some b->kindOf P o.op= .alloc->U.next.num<=b.num) (ac:rS P G ops A t₀ t₁ F S σ₀.next.num i):J_ P G ih ops A n d fin ρ₀ σ₀ w₀ t₀ l (i::done) t₁ F listed S w a:=by
 obtain⟨K,ae⟩:=hj.ok;obtain⟨f1,f2⟩:=nb hp;have Q:fv ops i=o.dst:=jo ho;have aK:¬Li listed i:=fun h=>K.new (hj.sub i h)
 have z:∀j∈done,∀k,fv ops j=some k->t₁.get (posOf k)=t.get (posOf k):=fun j C k hk=>f1 k fun e=>by
  have:=hs.uniq i j k (by rw[Q];exact e) hk;subst this;exact K.new C
 have ab:∀j∈done,¬Li listed j->rS P G ops A t₀ t₁ F S σ₀.next.num j:=fun j C E=>by
  refine((hj.Dh j C E).Nl fun k hk=>?_).grow M aq.next;rcases hk with hk | ⟨q,hq,hk⟩
  ·grind
  exact z q (hj.mf j q (mP hk) C hq) k hk
 have ar:∀j o' k' v' b,j∈done->¬Li listed j->ops[j]?=some o'->kindOf P o'.op= .alloc->fv ops j=some k'->t₁.get (posOf k')=some v'->dJ v'=some b->b.num<U.next.num:=fun j o' k' v' b C E R hk hd hv hb=>by
  obtain⟨o'',ti,e,_,_,bw,_,h4,h5⟩:=hj.Dh j C E;rw[R] at e;cases e;rw[z j C k' hd] at hv;rw[jo R] at hd;cases bw with
  | false=>rw[h4 Z k' hd] at hv;cases hv;cases hb
  | true=>
   have:=h5 Z
   grind [ns,AE]
 refine⟨L,ae,hinv,hj.Nt.trans aq,hj.dr,hj.gr,hj.Nv,hj.Lo,fun j h=>?_,⟨K.dep,hj.ord⟩,fun j h=>mC_ _ (hj.sub j h),fun j h hv=>?_,hj.closed,fun j q hq h ha=>?_,fun j h k hk=>?_,fun j k u hL hk hu=>?_,hj.Dw,fun k hk=>?_,fun j h E=>?_,?_⟩
 ·rcases dh h with rfl | h
  ·exact K.lt
  exact hj.NL j h
 ·rcases dh h with rfl | h
  ·simp_all
  exact hj.kN j h hv
 ·rcases dh h with rfl | h
  ·exact mC_ _<|wI hs K.lt K.dep hj.mf q hq ha
  exact mC_ _<|hj.mf j q hq h ha
 ·rcases dh h with rfl | h
  ·simp_all
  exact hj.OO j h k hk
 ·rw[z j (hj.sub j hL) k hk] at hu;exact hj.Dx j k u hL hk hu
 ·rw[f1 k (fun e=>hk i (mS_ ..) (by rw[Q];exact e))];exact hj.same k fun j h=>hk j (mC_ _ h)
 ·grind
 intro j q o' o'' k k' u u' b h1 h2 h3 h4 h5 h6 h7 h8 h9 W X aa am ao;rcases dh h1 with rfl | m1<;>rcases dh h2 with rfl | m2
 ·rfl
 ·grind
 ·grind
 rw[z j m1 k h9] at X;rw[z q m2 k' W] at aa;exact hj.apart j q o' o'' k k' u u' b m1 m2 h3 h4 h5 h6 h7 h8 h9 W X aa am ao
theorem Inv.Ei (hi:Inv S U w) (ob:cM):Ay S (U.alloc ob) w/\fj S U w S (U.alloc ob) w/\∀b o,U.m.get b=some o->(U.alloc ob).m.get b=some o:=by
 have aa:S U.next=none:=(hi.fresh _<|nR_ _).1;have u:∀b,b≠U.next->(U.alloc ob).m.get b=U.m.get b:=fun b hb=>PT.du _ _ _ _ hb
 have back:∀b o l,(U.alloc ob).m.get b=some o->S b=some l->U.m.get b=some o:=fun b o l h hl=>by
  grind
 refine⟨⟨fun b hb=>?_,hi.dJ,fun b o l h hl=>hi.obj b o l (back b o l h hl) hl,fun b b' o o' l l' h1 C z h4=>hi.inj b b' o o' l l' (back b o l h1 z) (back b' o' l' C h4) z h4⟩,⟨fun _ _=>Z,?_,nR_ _,fun _ _ _=>Z,?_,Z,Z,Z⟩,fun b o h=>?_⟩
 ·have ab:U.next.num+1<=b.num:=by simpa [I.alloc,Pos.jv] using hb
  have E:b≠U.next:=fun e=>by subst e;omega
  rw[u b E];exact hi.fresh b B
 ·simp[I.alloc,Pos.jv]
 ·rintro r ⟨b,o,l,h1,C,z,rfl⟩ _;exact⟨b,o,l,back b o l h1 z,C,z,Z⟩
 by_cases e:b=U.next
 ·subst e;rw[(hi.fresh _<|nR_ _).2] at h;cases h
 simp_all
theorem Inv.ahead (hi:Inv S U w) (ob:cM):Inv S (U.alloc ob) w/\fj S U w S (U.alloc ob) w/\∀b o,U.m.get b=some o->(U.alloc ob).m.get b=some o:=
 let ⟨h1,u,z⟩:=hi.Ei ob;⟨⟨h1,hi.sk.of u⟩,u,z⟩
theorem I.HO (U:I) (ob:cM):(U.alloc ob).m.get U.next=some ob:=PT.dz _ _ _
theorem J_.Ph (L:Shape P ops A) {i:Nat} {rc:List Nat} (hj:J_ P G ih ops A n d fin ρ₀ σ₀ w₀ t₀ ((i,rc)::l) done t U listed S w a) (hl:km P ops i=false) (aa:∀k,fin≠ .err k):
  ∃t₁ z,J_ P G ih ops A n d fin ρ₀ σ₀ w₀ t₀ l (i::done) t₁ z listed S w a:=by
 obtain⟨K,ab⟩:=hj.ok;obtain⟨o,E⟩:∃o,ops[i]?=some o:=⟨ops[i]' K.lt,aG_ K.lt⟩
 have u:(match ops[i]? with
   | some o=>jx P G ih false ops n o t U (fun t' U'=>bif dk P G ops t' U' rc then kx P G ih ops n d l t' U' else .err 86)
   | none=>.err 87)=fin:=hj.run
 rw[E] at u;dsimp only at u;have hhead:=hj.xE L E K.new
 have C:∀t₁ z,(bif dk P G ops t₁ z rc then kx P G ih ops n d l t₁ z else .err 86)=fin->kx P G ih ops n d l t₁ z=fin:=fun t₁ z h=>by
  grind
 have F:∀{v:V} {t₁:PT V},dG t n o.dst v=some t₁->∀k∈slotsOf ops o,∀j,sy A i j=true->fv ops j=some k->t.get (posOf k)=t₁.get (posOf k):=fun hp k hk j X R=>by
  refine((nb hp).1 k fun e=>?_).symm;have:=L.uniq i j k (by rw[jo E];exact e) R;subst this;exact K.new<|wI L K.lt K.dep hj.mf i K.lt X
 unfold jx at u;cases hw:bS ops t o with
 | none=>grind
 | some bw=>
  rw[hw] at u;cases bw with
  | false=>
   dsimp only at u;cases hp:dG t n o.dst unit with
   | none=>grind
   | some t₁=>
    rw[hp] at u;refine⟨t₁,U,hj.ahead L hl E hp (C _ _ u) hj.inv (fj.refl _ _ _) (fun _ _ h=>h) (fun b hb=>by cases hb) ?_⟩;exact⟨o,t,E,F hp,hhead,false,hw,fun _ k hk=>((nb hp).2 k hk).2,fun h=>by cases h⟩
  | true=>
   dsimp only at u
   have main:∀(v:V) (z:I),mh P G ih (dX P G (bI G t) U o.op)= .ret v z->Inv S z w->fj S U w S z w->(∀b o,U.m.get b=some o->z.m.get b=some o)->
     (∀b,dJ v=some b->kindOf P o.op= .alloc->U.next.num<=b.num)->(∀t₁,(∀k,o.dst=some k->t₁.get (posOf k)=some v)->ns P G t₁ z S σ₀.next.num t o)->
     ∃t₁ z,J_ P G ih ops A n d fin ρ₀ σ₀ w₀ t₀ l (i::done) t₁ z listed S w a:=by
    intro v z he hinv aq M Q W;rw[he] at u;dsimp only at u;cases hp:dG t n o.dst v with
    | none=>grind
    | some t₁=>
     rw[hp] at u;refine⟨t₁,z,hj.ahead L hl E hp (C _ _ u) hinv aq M Q ?_⟩;exact⟨o,t,E,F hp,hhead,true,hw,fun h=>(by cases h),fun _=>W t₁ fun k hk=>((nb hp).2 k hk).2⟩
   cases hk:kindOf P o.op with
   | kN=>simp[km,E3,E,hk] at hl
   | pure=>
    cases hv:di P (bI G t) o.op with
    | none=>
     have:mh P G ih (dX P G (bI G t) U o.op)= .err (Nat.add 1000<|z7 o.op):=by unfold dX;rw[hk];dsimp only;rw[hv];rfl
     grind
    | some v=>
     have:mh P G ih (dX P G (bI G t) U o.op)= .ret v U:=by unfold dX;rw[hk];dsimp only;rw[hv];rfl
     refine main v U this hj.inv (fj.refl _ _ _) (fun _ _ h=>h) (fun b _ h=>by rw[hk] at h;cases h) fun t₁ ht₁=>?_
     unfold ns;simp_all
   | read=>
    cases hv:hJ P (bI G t) U o.op with
    | none=>
     have:mh P G ih (dX P G (bI G t) U o.op)= .err (Nat.add 2000<|z7 o.op):=by unfold dX;rw[hk];dsimp only;rw[hv];rfl
     grind
    | some v=>
     have:mh P G ih (dX P G (bI G t) U o.op)= .ret v U:=by unfold dX;rw[hk];dsimp only;rw[hv];rfl
     refine main v U this hj.inv (fj.refl _ _ _) (fun _ _ h=>h) (fun b _ h=>by rw[hk] at h;cases h) fun t₁ ht₁=>?_
     unfold ns;simp_all
   | alloc=>
    cases hv:fO P (bI G t) o.op with
    | none=>
     have:mh P G ih (dX P G (bI G t) U o.op)= .err (Nat.add 3000<|z7 o.op):=by unfold dX;rw[hk];dsimp only;rw[hv];rfl
     grind
    | some p=>
     obtain⟨ob,mk⟩:=p;have:mh P G ih (dX P G (bI G t) U o.op)= .ret (mk.of U.next) (U.alloc ob):=by unfold dX;rw[hk];dsimp only;rw[hv];rfl
     obtain⟨g1,g2,g3⟩:=hj.inv.ahead ob;refine main _ _ this g1 g2 g3 (fun b hb _=>by rw[AE] at hb;simp_all) fun t₁ ht₁=>?_
     unfold ns;rw[hk];exact⟨ob,mk,U.next,hv,I.HO U ob,(hj.inv.fresh _<|nR_ _).1,hj.Nt.next,by simp[I.alloc,Pos.jv],ht₁⟩
theorem J_.advance (z:Shape P ops A) (u:∀k,fin≠ .err k):∀(l:List (Nat×List Nat)) (done:List Nat) (t:PT V) (U:I),J_ P G ih ops A n d fin ρ₀ σ₀ w₀ t₀ l done t U listed S w a->
  ∃l' done' t' U',J_ P G ih ops A n d fin ρ₀ σ₀ w₀ t₀ l' done' t' U' listed S w a/\(l'= []∨∃i rc r,l'=(i,rc)::r/\km P ops i=true)
 | [],done,t,U,hj=>⟨[],done,t,U,hj,.inl Z⟩
 | (i,rc)::l,done,t,U,hj=>by
  cases hl:km P ops i with
  | true=>exact⟨_,done,t,U,hj,.inr ⟨i,rc,l,Z,hl⟩⟩
  | false=>
   obtain⟨t₁,C,hj₁⟩:=hj.Ph z hl u;exact J_.advance z u l _ t₁ C hj₁
end
section
variable {P:Program} {G:Cx} {ih:lD} {ops:Array Oper} {A:Array Nat} {n:Nat} {d:List DE} {fin:CR} {ρ₀:dg} {σ₀:I} {w₀:World} {t₀:PT V}
variable {l:List (Nat×List Nat)} {done:List Nat} {t:PT V} {U:I} {listed:Array Bool} {S:dg} {w:World} {a:Act}
theorem J_.behind (M:Shape P ops A) (hj:J_ P G ih ops A n d fin ρ₀ σ₀ w₀ t₀ l done t U listed S w a) {i:Nat} {o:Oper} {x:Value} {F:dg} {w₁:World} (Q:ops[i]?=some o) (E:i∈done) (hn:¬Li listed i)
  (hr:∀j,j<ops.size->sy A i j=true->Li listed j) (hv:∀k v,o.dst=some k->t.get (posOf k)=some v->VR F v x) (hinv:Inv F U w₁) (aq:fj ρ₀ σ₀ w₀ F U w₁) (hle:S.le F)
  (aa:∀j∈done,¬Li listed j->j≠i->rS P G ops A t₀ t U F σ₀.next.num j):J_ P G ih ops A n d fin ρ₀ σ₀ w₀ t₀ l done t U (listed.setIfInBounds i true) F w₁ (a.put o.dst x):=by
 have K:i<listed.size:=by rw[hj.Lo];exact hj.NL i E
 have C:fv ops i=o.dst:=jo Q;obtain⟨L,R,W⟩:=Kn (a:=a) (dst:=o.dst) (x:=x);have z:∀{j},Li (listed.setIfInBounds i true) j↔j=i∨Li listed j:=Eb K
 refine⟨hj.run,hj.ok,hinv,aq,by rw[put_defers];exact hj.dr.mono hle,hj.gr.mono hle,by rw[W];exact hj.Nv,by simpa using hj.Lo,hj.NL,hj.ord,fun j h=>?_,fun j h X=>z.2 (.inr<|hj.kN j h X),fun j q hq h ha=>?_,hj.mf,hj.OO,
  fun j k v h hk hu=>?_,fun k v h hu=>?_,hj.same,fun j h hl=>?_,?_⟩
 ·rcases z.1 h with rfl | h
  ·exact E
  exact hj.sub j h
 ·rcases z.1 h with rfl | h
  ·simp_all
  exact z.2 (.inr<|hj.closed j q hq h ha)
 ·by_cases e:j=i
  ·subst e;rw[C] at hk;rw[R k hk (by rw[hj.Nv];exact hj.OO j E k (by rw[C];exact hk))];exact hv k v hk hu
  have hL:=(z.1 h).resolve_left e;rw[L k (fun e'=>e (M.uniq j i k hk (by rw[C];exact e')))];exact VR.mono hle _ _<|hj.Dx j k v hL hk hu
 ·rw[L k (fun e'=>h i (z.2 (.inl Z)) (by rw[C];exact e'))];obtain⟨q1,q2⟩:=hj.Dw k v (fun j hL=>h j (z.2 (.inr hL))) hu;exact⟨q1,VR.mono hle _ _ q2⟩
 ·simp_all
 intro j q o' o'' k k' u u' b h1 h2 h3 h4;exact hj.apart j q o' o'' k k' u u' b h1 h2 (fun hL=>h3 (z.2 (.inr hL))) (fun hL=>h4 (z.2 (.inr hL)))
theorem tR {t₁:PT V} {u:I}:∀{rc:List Nat} {j:Nat},dk P G ops t₁ u rc=true->j∈rc->jJ P G ops t₁ u j=true
 | [],j,_,hj=>by cases hj
 | i::rc,j,h,hj=>by
  have h':(bif jJ P G ops t₁ u i then dk P G ops t₁ u rc else false)=true:=h;rw[bL] at h';split at h'
  ·rename_i hi;rcases dh hj with rfl | hj
   ·exact hi
   exact tR h' hj
  cases h'
theorem J_.PG (hs:Shape P ops A) {i:Nat} {rc:List Nat} (hj:J_ P G ih ops A n d fin ρ₀ σ₀ w₀ t₀ ((i,rc)::l) done t U listed S w a) (hl:km P ops i=true) {o:Oper} (ho:ops[i]?=some o)
  (hr:∀j,j<ops.size->sy A i j=true->Li listed j) {v:V} {x:Value} {t₁:PT V} {Q:I} {S1:dg} {w₁:World} (hp:dG t n o.dst v=some t₁) (K:dk P G ops t₁ Q rc=true) (R:kx P G ih ops n d l t₁ Q=fin)
  (hv:VR S1 v x) (hinv:Inv S1 Q w₁) (aq:fj S U w S1 Q w₁):J_ P G ih ops A n d fin ρ₀ σ₀ w₀ t₀ l (i::done) t₁ Q (listed.setIfInBounds i true) S1 w₁ (a.put o.dst x):=by
 obtain⟨L,ae⟩:=hj.ok;obtain⟨f1,f2⟩:=nb hp;have hle:=aq.le hj.inv;have am:i<listed.size:=by rw[hj.Lo];exact L.lt
 have E:fv ops i=o.dst:=jo ho;obtain⟨p1,p2,p3⟩:=Kn (a:=a) (dst:=o.dst) (x:=x);have z:∀{j},Li (listed.setIfInBounds i true) j↔j=i∨Li listed j:=Eb am;have a0:¬Li listed i:=fun h=>L.new (hj.sub i h)
 have C:∀j∈done,∀k,fv ops j=some k->t₁.get (posOf k)=t.get (posOf k):=fun j F k hk=>f1 k fun e=>by
  have:=hs.uniq i j k (by rw[E];exact e) hk;subst this;exact L.new F
 refine⟨R,ae,hinv,hj.Nt.trans aq,by rw[put_defers];exact hj.dr.mono hle,hj.gr.mono hle,by rw[p3];exact hj.Nv,by simpa using hj.Lo,fun j h=>?_,⟨L.dep,hj.ord⟩,fun j h=>?_,fun j h hv=>?_,fun j q hq h M=>?_,fun j q hq h M=>?_,fun j h k hk=>?_,
  fun j k u h hk hu=>?_,fun k u h hu=>?_,fun k hk=>?_,fun j h W=>?_,?_⟩
 ·rcases dh h with rfl | h
  ·exact L.lt
  exact hj.NL j h
 ·rcases z.1 h with rfl | h
  ·simp_all
  exact mC_ _<|hj.sub j h
 ·rcases dh h with rfl | h
  ·simp_all
  exact z.2 (.inr<|hj.kN j h hv)
 ·rcases z.1 h with rfl | h
  ·simp_all
  exact z.2 (.inr<|hj.closed j q hq h M)
 ·rcases dh h with rfl | h
  ·exact mC_ _<|wI hs L.lt L.dep hj.mf q hq M
  exact mC_ _<|hj.mf j q hq h M
 ·rcases dh h with rfl | h
  ·simp_all
  exact hj.OO j h k hk
 ·by_cases e:j=i
  ·subst e;rw[E] at hk;obtain⟨q1,q2⟩:=f2 k hk;rw[p2 k hk (by rw[hj.Nv];exact q1)]
   simp_all
  have hL:=(z.1 h).resolve_left e;rw[p1 k (fun e'=>e (hs.uniq j i k hk (by rw[E];exact e')))];rw[C j (hj.sub j hL) k hk] at hu;exact VR.mono hle _ _<|hj.Dx j k u hL hk hu
 ·rw[p1 k (fun e'=>h i (z.2 (.inl Z)) (by rw[E];exact e'))];obtain⟨q1,q2⟩:=hj.Dw k u (fun j hL=>h j (z.2 (.inr hL))) hu;exact⟨q1,VR.mono hle _ _ q2⟩
 ·rw[f1 k (fun e=>hk i (mS_ ..) (by rw[E];exact e))];exact hj.same k fun j h=>hk j (mC_ _ h)
 ·have ao:j≠i:=fun e=>W (z.2 (.inl e))
  have X:¬Li listed j:=fun hL=>W (z.2 (.inr hL))
  have F:j∈done:=(dh h).resolve_left ao;refine(hj.Dh j F X).again hs (fun k hk=>?_) (fun k hk=>?_) (fun ap=>?_) (fun b hb=>aq.ext b hb) aq.next
  ·rcases hk with hk | ⟨q,hq,hk⟩
   ·grind
   exact C q (hj.mf j q (mP hk) F hq) k hk
  ·rw[f1 k (fun e=>hk i (by rw[E];exact e))];exact hj.same k fun j _=>hk j
  rcases L.again hl j F ap with M | hm
  ·exact absurd (hr j (hj.NL j F) M) X
  exact tR K hm
 intro j q o' o'' k k' u u' b h1 h2 h3 h4 h5 h6 h7 h8 h9 aa ab ac ar aK;have m1:j∈done:=(dh h1).resolve_left fun e=>h3 (z.2 (.inl e))
 have m2:q∈done:=(dh h2).resolve_left fun e=>h4 (z.2 (.inl e))
 rw[C j m1 k h9] at ab;rw[C q m2 k' aa] at ac;exact hj.apart j q o' o'' k k' u u' b m1 m2 (fun hL=>h3 (z.2 (.inr hL))) (fun hL=>h4 (z.2 (.inr hL))) h5 h6 h7 h8 h9 aa ab ac ar aK
theorem Dm {i:Nat} (z:listed.size=ops.size) (h:i∈Region.ready .any ops listed):i<ops.size/\¬Li listed i/\∀j,waits ops i j=true->Li listed j:=by
 obtain⟨h1,o,C,E⟩:=mem_ready.1 h;have hlt:=(aS_.1 C).1;refine⟨hlt,(Kc (by rw[z];exact hlt)).1 h1,fun j hw=>?_⟩;obtain⟨o',u,e,he,hb,rfl⟩:=rP.1 hw;rw[C] at u;cases u;exact E e he hb
theorem Dl {i:Nat} (z:listed.size=ops.size) (u:i<ops.size) (C:¬Li listed i) (hw:∀j,waits ops i j=true->Li listed j):i∈Region.ready .any ops listed:=
 mem_ready.2 ⟨(Kc (by rw[z];exact u)).2 C,ops[i]' u,aG_ u,fun e he hb=>hw _ (rP.2 ⟨_,aG_ u,e,he,hb,Z⟩)⟩
theorem z8:∀{done:List Nat},Ord ops done->(∃i∈done,¬Li listed i)->∃i∈done,¬Li listed i/\∀j,waits ops i j=true->Li listed j
 | [],_,⟨i,hi,_⟩=>by cases hi
 | i::r,z,⟨q,hq,E⟩=>by
  by_cases C:∃j∈r,¬Li listed j
  ·obtain⟨j,h1,h2,h3⟩:=z8 z.2 C
   grind
  have u:∀j∈r,Li listed j:=fun j hj=>Classical.byContradiction fun h=>C ⟨j,hj,h⟩
  rcases dh hq with rfl | hq
  ·exact⟨q,mS_ ..,E,fun j hw=>u j (z.1 j hw)⟩
  simp_all
theorem J_.all (hs:Shape P ops A) (hj:J_ P G ih ops A n d fin ρ₀ σ₀ w₀ t₀ l done t U listed S w a) (hr:Region.ready .any ops listed= []):∀i,i<ops.size->Li listed i:=by
 have u:∀i∈done,Li listed i:=fun i hi=>Classical.byContradiction fun h=>by
  obtain⟨q,h1,C,E⟩:=z8 hj.ord ⟨i,hi,h⟩;have:=Dl hj.Lo (hj.NL q h1) C E
  simp_all
 intro i hi;cases l with
 | nil=>
  have:=hj.ok;exact u i<|this i hi
 | cons p l=>
  obtain⟨q,rc⟩:=p;obtain⟨z,_⟩:=hj.ok;have:=Dl (listed:=listed) hj.Lo z.lt (fun h=>z.new (hj.sub q h)) (fun j hw=>u j (z.dep j hw))
  simp_all
theorem J_.finish (hs:Shape P ops A) (hj:J_ P G ih ops A n d fin ρ₀ σ₀ w₀ t₀ l done t U listed S w a) (u:∀i,i<ops.size->Li listed i):fin= .ok .normal t d U/\TR S t n a.tmps:=by
 cases l with
 | nil=>
  refine⟨hj.run.symm,hj.Nv,fun k v hv=>?_⟩
  by_cases hw:∃i,fv ops i=some k
  ·obtain⟨i,hi⟩:=hw;have hL:=u i (mP hi);exact⟨hj.OO i (hj.sub i hL) k hi,hj.Dx i k v hL hi hv⟩
  rw[hj.same k fun i _ hi=>hw ⟨i,hi⟩] at hv;exact hj.Dw k v (fun i _ hi=>hw ⟨i,hi⟩) hv
 | cons p l=>
  obtain⟨q,rc⟩:=p;obtain⟨z,_⟩:=hj.ok;exact absurd (hj.sub q<|u q z.lt) z.new
def left (N_:Nat) (listed:Array Bool):Nat:=(List.range N_).countP fun i=> !listed.getD i false
theorem zA {α:Type} {p q:α->Bool}:∀{l:List α} {x:α},(∀y∈l,q y=true->p y=true)->x∈l->p x=true->q x=false->l.countP q<l.countP p
 | [],x,_,hx,_,_=>by cases hx
 | y::l,x,h,hx,hp,hq=>by
  have hle:l.countP q<=l.countP p:=List.countP_mono_left fun z u=>h z (mC_ _ u)
  rcases dh hx with rfl | hx
  ·grind
  have:=zA (fun z u=>h z (mC_ _ u)) hx hp hq
  grind
theorem JV {N_ i:Nat} (hi:i<N_) (u:listed.size=N_) (z:¬Li listed i):left N_ (listed.setIfInBounds i true)<left N_ listed:=by
 refine zA (x:=i) (fun y _ hy=>?_) (List.mem_range.2 hi) ?_ ?_
 ·by_cases h:Li listed y
  ·have:Li (listed.setIfInBounds i true) y:=(Eb (by rw[u];exact hi)).2 (.inr h);unfold Li at this
   simp_all
  unfold Li at h;simpa using h
 ·unfold Li at z;simpa using z
 simp_all
theorem HX {N_:Nat} (h:left N_ listed=0):∀i,i<N_->Li listed i:=fun i hi=>by
 have:=List.countP_eq_zero.1 h i (List.mem_range.2 hi);unfold Li;simpa using this
theorem Inv.lay (hi:Inv S U w) {b:Pos} {l:Loc} {ob:cM} {x:Obj} (hb:U.m.get b=some ob) (hn:S b=none) (aa:b.num<U.next.num) (hl:l.dJ=w.heap.size) (Q:iN S l ob x):Inv (S.with b l) U (w.alloc x)/\S.le (S.with b l):=by
 have hle:S.le (S.with b l):=fun b' l' u=>by
  grind [dg.dU]
 have hold:∀b' l',b'≠b->(S.with b l) b'=some l'->S b'=some l':=fun b' l' C h=>by rwa[dg.dU S l C] at h
 have E:Old (S.with b l) U (w.alloc x):=by
  refine⟨by have:=hi.sk.size;simp;omega,fun r K=>by rw[heap_alloc_old w x<|Nat.lt_of_lt_of_le K hi.sk.size];exact hi.sk.same r K,fun r K ⟨b',o',l',h1,L,z,h4⟩=>?_⟩
  by_cases e:b'=b
  ·subst e;rw[dg.da] at z;cases z;have:=hi.sk.size;omega
  exact hi.sk.no r K ⟨b',o',l',h1,L,hold b' l' e z,h4⟩
 refine⟨⟨⟨fun b' u=>?_,fun b' l' u=>?_,fun b' o' l' u F=>?_,fun b₁ b₂ o₁ o₂ l₁ l₂ h1 L z h4 h5 R=>?_⟩,E⟩,hle⟩
 ·have C:b'≠b:=fun e=>by subst e;omega
  rw[dg.dU S l C];exact hi.fresh b' u
 ·simp only[World.size_alloc]
  by_cases e:b'=b
  ·subst e;rw[dg.da] at u;cases u;omega
  have:=hi.dJ b' l' (hold b' l' e u);omega
 ·by_cases e:b'=b
  ·subst e;rw[dg.da] at F;cases F;rw[hb] at u;cases u;exact⟨x,by rw[hl];exact heap_alloc_new w x,Q.mono hle⟩
  have h':=hold b' l' e F;obtain⟨y,hy,K⟩:=hi.obj b' o' l' u h';exact⟨y,by rw[heap_alloc_old w x<|hi.dJ b' l' h'];exact hy,K.mono hle⟩
 by_cases e1:b₁=b<;>by_cases M:b₂=b
 ·simp_all
 ·subst e1;rw[dg.da] at z;cases z;have:=hi.dJ b₂ l₂ (hold b₂ l₂ M h4);omega
 ·subst M;rw[dg.da] at h4;cases h4;have:=hi.dJ b₁ l₁ (hold b₁ l₁ e1 z);omega
 exact hi.inj b₁ b₂ o₁ o₂ l₁ l₂ h1 L (hold b₁ l₁ e1 z) (hold b₂ l₂ M h4) h5 R
theorem fj.lay (aq:fj ρ₀ σ₀ w₀ S U w) {b:Pos} {l:Loc} {x:Obj} (aa:σ₀.next.num<=b.num) (hl:l.dJ=w.heap.size):fj ρ₀ σ₀ w₀ (S.with b l) U (w.alloc x):=by
 refine⟨fun b' z=>?_,aq.next,by have:=aq.size;simp;omega,fun r C E=>?_,?_,aq.tape,aq.os,aq.out⟩
 ·rw[dg.dU S l (fun e=>by subst e;omega)];exact aq.ext b' z
 ·rw[heap_alloc_old w x (by have:=aq.size;omega)];exact aq.frame r C E
 rintro r ⟨b',o',l',h1,F,u,rfl⟩ C
 by_cases e:b'=b
 ·subst e;rw[dg.da] at u;cases u;have:=aq.size;omega
 rw[dg.dU S l e] at u;exact aq.wr _ ⟨b',o',l',h1,F,u,Z⟩ C
theorem J_.take (L:Shape P ops A) (hj:J_ P G ih ops A n d fin ρ₀ σ₀ w₀ t₀ l done t U listed S w a) {i:Nat} (E:i∈done) (M:¬Li listed i) (hw:∀j,waits ops i j=true->Li listed j) (rl:Option Nat) (m:Nat) {Q:Exit->Act->World->Prop} {K:Act->World->Prop}
  (hK:∀S1 w₁ a₁,J_ P G ih ops A n d fin ρ₀ σ₀ w₀ t₀ l done t U (listed.setIfInBounds i true) S1 w₁ a₁->K a₁ w₁):wpOpIn (pw rl) m P ops Q i K a w:=by
 have hr:=wJ L (hj.NL i E) hw hj.closed;obtain⟨o,ti,F,h1,h2,bw,h3,h4,h5⟩:=hj.Dh i E M;have hlook:=hj.look L F M hr h1 h2;unfold wpOpIn;rw[F];dsimp only;rw[vG hj.Nv hlook h3];cases bw with
 | false=>
  simp only[Bool.false_eq_true,if_false];exact⟨fun f _=>rp rl f,hK S w _<|hj.behind L F E M hr (fun k v hk hv=>by rw[h4 Z k hk] at hv;cases hv;exact wc) hj.inv hj.Nt (fun _ _ h=>h) fun j z C _=>hj.Dh j z C⟩
 | true=>
  simp only[if_true];have hE:ER S (bI G ti) a.eval o.op:=Gy hj.gr hlook;have hv:=h5 Z;unfold ns at hv;have R:kindOf P o.op≠ .kN->∀c,o.op≠ .defer c:=fun hk c e=>hk (by rw[e];rfl)
  unfold Oper.wpIn;refine⟨fun f _=>rp rl f,?_⟩;cases hk:kindOf P o.op with
  | kN=>simp_all
  | pure=>
   rw[hk] at hv;obtain⟨v,g1,g2⟩:=hv;obtain⟨x,hx,W⟩:=yc (P:=P) (w:=w) hE g1;rw[Oper.semAt_eq _ _ _<|R (by rw[hk];simp),hx,Oper.uponIn_value];exact hK S w _<|hj.behind L F E M hr (fun k u hk hu=>by simp_all) hj.inv hj.Nt (fun _ _ h=>h) fun j z C _=>hj.Dh j z C
  | read=>
   rw[hk] at hv;obtain⟨v,g1,g2⟩:=hv;obtain⟨x,hx,W⟩:=yg (P:=P) hj.inv hE g1;rw[Oper.semAt_eq _ _ _<|R (by rw[hk];simp),hx,Oper.uponIn_value];exact hK S w _<|hj.behind L F E M hr (fun k u hk hu=>by simp_all) hj.inv hj.Nt (fun _ _ h=>h) fun j z C _=>hj.Dh j z C
  | alloc=>
   rw[hk] at hv;obtain⟨ob,mk,b,g1,g2,g3,g4,g5,g6⟩:=hv;obtain⟨x,ob',c,hx,ae,aa,W⟩:=vf (P:=P) (w:=w) hE g1;rw[Oper.semAt_eq _ _ _<|R (by rw[hk];simp),hx,Oper.uponIn_value];obtain⟨inv,hle⟩:=hj.inv.lay (l:=⟨w.heap.size,0,c⟩) g2 g3 g5 Z aa;obtain⟨kd,X⟩:=L.dst i o F (by simp[gy,uC,F,hk]);refine hK _ _ _<|hj.behind L F E M hr (fun k u hk hu=>by grind [dg.da]) inv (hj.Nt.lay g4 Z) hle fun j z C ab=>?_;refine(hj.Dh j z C).Rz L fun b' ac hb'n=>?_
   obtain⟨o',k',v',q1,q2,q3,q4,q5⟩:=ac;rw[dg.dU]
   ·exact hb'n
   intro e;subst e;exact ab<|hj.apart j i o' o k' kd v' (mk.of b') b' z E C M q1 F q2 hk q3 (by rw[jo F];exact X) q4 (g6 kd X) q5<|AE mk b'
theorem Jn (F:Shape P ops A) (hS:Sound P G ih) (rl:Option Nat) (m:Nat) {Q:Exit->Act->World->Prop} {e:Ex} {t':PT V} {d':List DE} {U':I} (C:fin= .ok e t' d' U')
  (hQ:∀(S':dg) (w':World) (a':Act),Inv S' U' w'->fj ρ₀ σ₀ w₀ S' U' w'->TR S' t' n a'.tmps->DR S' d' a'.defers->Qx Q S' e a' w'):
  ∀(fuel:Nat) (l:List (Nat×List Nat)) (done:List Nat) (t:PT V) (U:I) (listed:Array Bool) (S:dg) (w:World) (a:Act),J_ P G ih ops A n d fin ρ₀ σ₀ w₀ t₀ l done t U listed S w a->left ops.size listed<=fuel->
   wpAnyIn (pw rl) m P .any ops Q fuel listed a w:=by
 have K:∀{l done t U listed S w a},J_ P G ih ops A n d fin ρ₀ σ₀ w₀ t₀ l done t U listed S w a->Region.ready .any ops listed= []->Q .normal a w:=fun {l done t U listed S w a} hj hr=>by
  obtain⟨h1,h2⟩:=hj.finish F (hj.all F hr);rw[C] at h1;cases h1;exact hQ S w a hj.inv hj.Nt h2 hj.dr _ Z
 intro fuel;induction fuel with
 | zero=>
  intro l done t U listed S w a hj hf;have hall:=HX (Nat.le_zero.1 hf)
  have hr:Region.ready .any ops listed= []:=by
   apply List.eq_nil_iff_forall_not_mem.2;intro i hi;obtain⟨h1,h2,_⟩:=Dm hj.Lo hi;exact h2<|hall i h1
  exact⟨hr,K hj hr⟩
 | succ fuel ihf=>
  intro l done t U listed S w a hj hf;refine⟨fun hr=>K hj hr,fun i hi=>?_⟩;obtain⟨l,done,t,U,hj,L⟩:=J_.advance F (fun k=>by rw[C];simp) l done t U hj;obtain⟨z,hn,hw⟩:=Dm hj.Lo hi;have M:left ops.size (listed.setIfInBounds i true)<=fuel:=by have:=JV z hj.Lo hn;omega
  by_cases R:i∈done
  ·exact hj.take F R hn hw rl m fun S1 w₁ a₁ hj₁=>ihf _ _ _ _ _ _ _ _ hj₁ M
  
  rcases L with rfl | ⟨q,rc,r,rfl,hl⟩
  ·have:=hj.ok;exact absurd (this i z) R
  obtain⟨hh,_⟩:=hj.ok
  have ab:i=q:=Classical.byContradiction fun ac=>by
   obtain⟨x,h1,h2⟩:=hh.alone hl i z R ac;exact h2<|hj.sub x<|hw x h1
  subst ab;have hr:=wJ F z hw hj.closed;obtain⟨o,X⟩:∃o,ops[i]?=some o:=⟨ops[i]' z,aG_ z⟩;have hlook:=hj.look F X hn hr (ti:=t) (fun _ _ _ _ _=>Z) (hj.xE F X hh.new)
  have u:(match ops[i]? with
   | some o=>jx P G ih false ops n o t U (fun t' U'=>bif dk P G ops t' U' rc then kx P G ih ops n d r t' U' else .err 86)
   | none=>.err 87)=fin:=hj.run
  rw[X,C] at u;dsimp only at u
  have E:∀t₁ W,(bif dk P G ops t₁ W rc then kx P G ih ops n d r t₁ W else .err 86)= .ok e t' d' U'->dk P G ops t₁ W rc=true/\kx P G ih ops n d r t₁ W=fin:=fun t₁ W h=>by
   grind
  unfold jx at u;unfold wpOpIn;rw[X];dsimp only;cases aa:bS ops t o with
  | none=>simp_all
  | some bw=>
   rw[aa] at u;rw[vG hj.Nv hlook aa];cases bw with
   | false=>
    dsimp only at u;simp only[Bool.false_eq_true,if_false];cases hp:dG t n o.dst unit with
    | none=>simp_all
    | some t₁=>
     rw[hp] at u;obtain⟨c1,c2⟩:=E _ _ u;exact⟨fun f _=>rp rl f,ihf _ _ _ _ _ _ _ _ (hj.PG F hl X hr hp c1 c2 wc hj.inv<|fj.refl _ _ _) M⟩
   | true=>
    dsimp only at u;simp only[if_true];cases he:mh P G ih (dX P G (bI G t) U o.op) with
    | err k=>simp_all
    | m9 v W=>rw[he] at u;cases u
    | ret v W=>
     rw[he] at u;dsimp only at u;cases hp:dG t n o.dst v with
     | none=>simp_all
     | some t₁=>
      rw[hp] at u;obtain⟨c1,c2⟩:=E _ _ u;exact De hS hj.inv hj.gr (Gy hj.gr hlook) he rl m fun S1 w₁ x inv st hv=>ihf _ _ _ _ _ _ _ _ (hj.PG F hl X hr hp c1 c2 hv inv st) M
end
section
variable {P:Program} {G:Cx}
theorem jV {b:Frame} {a:Act} {k:List Item} {cs:List Frame} {w:World} {c:Code}:step P (lone (b.atR a (.code (.scope c)::k)) cs w)= .next (lone (b.atR a (.code c:: .inScope c::k)) cs w):=
 step_lone_go (by simp[stepG,stepG.exec,Frame.atR])
theorem zi {b:Frame} {a:Act} {k:List Item} {cs:List Frame} {w:World} {c:Code}:step P (lone (b.atR a (.inScope c::k)) cs w)= .next (lone (b.atR a k) cs w):=
 step_lone_go (by simp[stepG,stepG.exec,Frame.atR])
theorem FU {F:Fence} {n:Nat} {c:Code} {Q:Exit->Act->World->Prop} {a:Act} {w:World} (h:c.wpIn F n P (Exit.noGoto Q) a w):(Code.scope c).wpIn F n P Q a w:=by
 intro b k cs z hb A;have h0:(lone (b.atR a (.code (.scope c)::k)) cs w).fenced P F:=fenced_calm hb A Z;obtain⟨e,a₁,w₁,hq,u⟩:=h b (.inScope c::k) cs z hb A;cases e with
 | normal=>exact⟨.normal,a₁,w₁,hq,.head h0 jV<|StepsIn.trans u (.one (fenced_calm hb A Z) zi)⟩
 | exit id'=>
  have hx:exitTo id' (.inScope c::k)=exitTo id' k:=by simp[exitTo]
  exact⟨.exit id',a₁,w₁,hq,fun k' hk=>.head h0 jV (u.1 k' (by rw[hx];exact hk)),
   fun C hk=>let ⟨k₁,h1,E⟩:=u.2 C (by rw[hx];exact hk);⟨k₁,h1,.head h0 jV E⟩⟩
 | goto l=>exact hq.elim
 | ret=>exact⟨_,a₁,w₁,hq,.of_steps (.one h0 jV) u⟩
 | panic ch=>exact⟨_,a₁,w₁,hq,.of_steps (.one h0 jV) u⟩
 | outgrown=>exact⟨_,a₁,w₁,hq,.of_steps (.one h0 jV) u⟩
theorem kY {N_ i:Nat}:¬Li (Array.replicate N_ false) i:=by
 unfold Li;rw[Array.getD_eq_getD_getElem?,Array.getElem?_replicate];split<;>simp
theorem EI {ih:lD} (E:Sound P G ih) {ops:Array Oper} {n:Nat} {d:List DE} {t:PT V} {U:I} {e:Ex} {t':PT V} {d':List DE} {U':I} (h:vw P G ih ops n d t U= .ok e t' d' U')
  {S:dg} {w:World} {a:Act} (hi:Inv S U w) (F:GR S G) (C:TR S t n a.tmps) (K:DR S d a.defers) (rl:Option Nat) (m:Nat) {Q:Exit->Act->World->Prop}
  (L:∀(S':dg) (w':World) (a':Act),Inv S' U' w'->fj S U w S' U' w'->TR S' t' n a'.tmps->DR S' d' a'.defers->Qx Q S' e a' w'):
  wpAnyIn (pw rl) m P .any ops Q ops.size (Array.replicate ops.size false) a {w with drawn:=w.drawn+1}:=by
 unfold vw at h;rw[bL] at h;split at h
 ·rename_i hc;obtain⟨M,z⟩:=L5 hc;refine Jn (A:=AA P ops) (n:=n) (d:=d) (t₀:=t) (ρ₀:=S) (σ₀:=U) (w₀:=w) M E rl m Z L ops.size (j1 P ops) [] t U _ S _ a ?_ ?_
  ·refine⟨h,z,hi.drew,fj.drew S U w,K,F,C.1,by simp,fun i hi=>(by cases hi),trivial,fun i u=>absurd u kY,fun i hi=>(by cases hi),fun i j _ u=>absurd u kY,fun i j _ hi=>(by cases hi),fun i hi=>(by cases hi),
    fun i k v u=>absurd u kY,fun k v _ hv=>C.2 k v hv,fun _ _=>Z,fun i hi=>(by cases hi),?_⟩
   simp_all
  exact Nat.le_trans List.countP_le_length (by simp)
 cases h
theorem yI {K:Act->World->Prop} {Q:Exit->Act->World->Prop} {S:dg} {e:Ex} {a:Act} {w:World} (he:e≠ .normal) (h:Qx Q S e a w):Qx (Exit.then K Q) S e a w:=by
 intro E u;have h':=h E u;cases e with
 | normal=>exact absurd Z he
 | m9 v=>obtain⟨x,rfl,_⟩:=u;exact h'
 | exit i=>have u:E= .exit i:=u;subst u;exact h'
 | goto i=>have u:E= .goto i:=u;subst u;exact h'
 | ret=>have u:E= .ret:=u;subst u;exact h'
theorem Il (hm:P.follows .mixedOrders=true) (hC:B0 P G) (k:Nat):Sound P G (eB P G k):=by
 induction k using Nat.strongRecOn with
 | _ k ihk=>
  cases k with
  | zero=>exact⟨hC,fun c t n d ro U e t' d' U' h=>by cases h⟩
  | succ j=>
   have hS:=ihk j (Nat.lt_succ_self j);refine⟨hC,fun c t n d ro U e t' d' U' h S w a rl m Q hi M L R W F=>?_⟩;have h:GY P G (eB P G j) c t n d ro U= .ok e t' d' U':=h;cases c with
   | skip=>cases h;exact wpIn_skip<|F S w a hi (fj.refl _ _ _) L R _ Z
   | label l=>cases h;exact wpIn_label<|F S w a hi (fj.refl _ _ _) L R _ Z
   | exit id=>cases h;exact wpIn_exit<|F S w a hi (fj.refl _ _ _) L R _ Z
   | ret=>cases h;exact wpIn_ret<|F S w a hi (fj.refl _ _ _) L R _ Z
   | region id ops draw=>
    cases draw with
    | false=>
     have h':(bif mW ops.toList then .err 96 else CI d (uI P G (eB P G j) ops n d ops.toList t U))= .ok e t' d' U':=h;refine wpIn_region ?_;rw[bL] at h';split at h'
     ·cases h'
     have:=uJ hS rl (m:=m) (Q:=Q) ops.toList 0 Z t U S w a h' hi M L R F;rw[List.range_eq_range'];simpa using this
    | true=>
     have h':vw P G (eB P G j) ops n d t U= .ok e t' d' U':=h
     grind [wpIn_region_any,EI]
   | seq x y=>
    have h':zh (eB P G j x t n d ro U) (fun t d U=>eB P G j y t n d ro U)= .ok e t' d' U':=h;refine wpIn_seq ?_;cases hx:eB P G j x t n d ro U with
    | err q=>rw[hx] at h';cases h'
    | ok e₁ t₁ d₁ K=>
     rw[hx] at h'
     by_cases he:e₁= .normal
     ·subst he;refine hS.run x t n d ro U _ t₁ d₁ K hx S w a rl m _ hi M L R W fun C w₁ a₁ i₁ s₁ ht₁ u E A=>?_
      have A:E= .normal:=A;subst A;have hle:=s₁.le hi;exact hS.run y t₁ n d₁ ro K e t' d' U' h' C w₁ a₁ rl m Q i₁ (M.mono hle) ht₁ u (W.mono hle) fun S' w' a' i' s'=>F S' w' a' i' (s₁.trans s')
     have h'':CR.ok e₁ t₁ d₁ K= .ok e t' d' U':=by cases e₁<;>first | exact absurd rfl he | exact h'
     cases h'';exact hS.run x t n d ro U _ _ _ _ hx S w a rl m _ hi M L R W fun C w₁ a₁ i₁ s₁ ht₁ u=>yI he (F C w₁ a₁ i₁ s₁ ht₁ u)
   | cond x y z=>
    have h':zy (bI G t x) (eB P G j y t n d ro U) (eB P G j z t n d ro U)= .ok e t' d' U':=h;unfold zy at h';split at h'
    ·rename_i hv;have:=kT (a:=a) M L hv;simp only[VR] at this;exact wpIn_cond_true this<|hS.run y t n d ro U e t' d' U' h' S w a rl m Q hi M L R W F
    ·rename_i hv;have:=kT (a:=a) M L hv;simp only[VR] at this;exact wpIn_cond_false this<|hS.run z t n d ro U e t' d' U' h' S w a rl m Q hi M L R W F
    cases h'
   | block id x=>
    have h':ui id (eB P G j x t n d ro U)= .ok e t' d' U':=h;refine wpIn_block ?_;cases hx:eB P G j x t n d ro U with
    | err q=>rw[hx] at h';cases h'
    | ok e₁ t₁ d₁ K=>
     rw[hx] at h';refine hS.run x t n d ro U e₁ t₁ d₁ K hx S w a rl m _ hi M L R W fun C w₁ a₁ i₁ s₁ ht₁ u E A=>?_
     cases e₁ with
     | exit q=>
      have A:E= .exit q:=A;subst A;unfold ui at h';dsimp only at h';rw[bL] at h';split at h'
      ·rename_i hq;cases h';have:=nB hq;subst this;simp only[Exit.inBlock,if_true];exact F C w₁ a₁ i₁ s₁ ht₁ u _ Z
      rename_i hq;cases h';have ab:¬q=id:=fun e=>hq (by simp_all)
      simp only[Exit.inBlock,if_neg ab];exact F C w₁ a₁ i₁ s₁ ht₁ u _ Z
     | normal=>have A:E= .normal:=A;subst A;cases h';exact F C w₁ a₁ i₁ s₁ ht₁ u _ Z
     | goto q=>have A:E= .goto q:=A;subst A;cases h';exact F C w₁ a₁ i₁ s₁ ht₁ u _ Z
     | ret=>have A:E= .ret:=A;subst A;cases h';exact F C w₁ a₁ i₁ s₁ ht₁ u _ Z
     | m9 v=>cases h';have h2:=F C w₁ a₁ i₁ s₁ ht₁ u E A;obtain⟨y,rfl,_⟩:=A;exact h2
   | scope x=>
    have h':Fv (eB P G j x t n d ro U)= .ok e t' d' U':=h;refine FU ?_;cases hx:eB P G j x t n d ro U with
    | err q=>rw[hx] at h';cases h'
    | ok e₁ t₁ d₁ K=>
     rw[hx] at h';refine hS.run x t n d ro U e₁ t₁ d₁ K hx S w a rl m _ hi M L R W fun C w₁ a₁ i₁ s₁ ht₁ u E A=>?_
     cases e₁ with
     | goto q=>cases h'
     | normal=>have A:E= .normal:=A;subst A;cases h';exact F C w₁ a₁ i₁ s₁ ht₁ u _ Z
     | exit q=>have A:E= .exit q:=A;subst A;cases h';exact F C w₁ a₁ i₁ s₁ ht₁ u _ Z
     | ret=>have A:E= .ret:=A;subst A;cases h';exact F C w₁ a₁ i₁ s₁ ht₁ u _ Z
     | m9 v=>cases h';have h2:=F C w₁ a₁ i₁ s₁ ht₁ u E A;obtain⟨y,rfl,_⟩:=A;exact h2
   | loop x=>
    refine wpIn_loop_ghost (fun i a₁ w₁=>i<=j+1/\∃t₁ d₁ K C,eB P G i (.loop x) t₁ n d₁ ro K= .ok e t' d' U'/\Inv C K w₁/\fj S U w C K w₁/\TR C t₁ n a₁.tmps/\DR C d₁ a₁.defers) (j+1)
     ⟨nR_ _,t,d,U,S,h,hi,fj.refl _ _ _,L,R⟩ fun i a₁ w₁ hI=>?_
    obtain⟨ac,t₁,d₁,K,C,X,i₁,s₁,ht₁,u⟩:=hI;have hle:=s₁.le hi;cases i with
    | zero=>cases X
    | succ i=>
     have hSi:=ihk i B;have h':zh (eB P G i x t₁ n d₁ ro K) (fun t d U=>eB P G i (.loop x) t n d ro U)= .ok e t' d' U':=X;cases hx:eB P G i x t₁ n d₁ ro K with
     | err q=>rw[hx] at h';cases h'
     | ok e₂ t₂ d₂ U2=>
      rw[hx] at h'
      by_cases he:e₂= .normal
      ·subst he;refine hSi.run x t₁ n d₁ ro K _ t₂ d₂ U2 hx C w₁ a₁ rl m _ i₁ (M.mono hle) ht₁ u (W.mono hle) fun S2 w₂ a₂ i₂ s₂ ht₂ aa E A=>?_
       have A:E= .normal:=A;subst A;exact⟨i,Nat.lt_succ_self i,by omega,t₂,d₂,U2,S2,h',i₂,s₁.trans s₂,ht₂,aa⟩
      have h'':CR.ok e₂ t₂ d₂ U2= .ok e t' d' U':=by cases e₂<;>first | exact absurd rfl he | exact h'
      cases h'';exact hSi.run x t₁ n d₁ ro K _ _ _ _ hx C w₁ a₁ rl m _ i₁ (M.mono hle) ht₁ u (W.mono hle) fun S2 w₂ a₂ i₂ s₂ ht₂ aa=>yI he (F S2 w₂ a₂ i₂ (s₁.trans s₂) ht₂ aa)
   | _=>cases h
theorem qu (hm:P.follows .mixedOrders=true) (u:B0 P G) {fuel f:Nat} {args:List V} {U U':I} {v:V} (h:xl P G fuel f args U= .ret v U') {S:dg} {w:World} {xs:Array Value} (hi:Inv S U w) (z:GR S G) (hx:dt S args xs.toList)
  {R:Ending->World->Prop} (A:∀(S':dg) (w':World) (x:Value),Inv S' U' w'->fj S U w S' U' w'->VR S' v x->R (.returned x) w'):Calls P f xs w R:=
 callsIn_wide.1 (wN (Il hm u fuel) h hi z hx none 0 A)
def U0:I:=⟨0,.leaf⟩
end
end Go.Ev
namespace Go.Ev
variable [Env]
open Go.ChangeShapes Go.WideShapes Go.ChangeAt Go.RowKit
theorem kJ.kept {w w':World} (h:kJ w w') (may:MemPlace->Prop):w.keptBut w' may:=by
 refine⟨h.os,h.out,fun i hi=>?_⟩;rw[h.same i hi]
 grind
theorem kJ.frozen {w w':World} (h:kJ w w') (a:Addr) (u:a.block<w.heap.size):w'.frozen? a=w.frozen? a:=by
 unfold World.frozen?;rw[h.same a.block u]
theorem Fp {H_:Type} {enc:TypeId×Value->H_} {P:Program} {f:Func} {s:ChangeSpec} {apart fresh handsOn again:Bool} {W W':World} {args:Array Value} {v:Value} {ds gs:List (DataW H_)} {before pa pv:List MemPlace}
  (E:DataW.Whole enc P f.params.toList s.vars apart W args.toList ds gs before)
  (A:∀(b:Nat) (sp:Nat->Bool) (G:Bool),DataW.TrodAll enc P W' b sp G f.resultTypes.toList (v.resultList f.resultTypes.size) (s.fn H_ (ds++gs)).results [])
  (u:∀sp:Nat->Bool,(∀p∈before,sp p.block=true)->DataW.TrodAll enc P W' 0 sp true f.params.toList args.toList (s.fn H_ (ds++gs)).args pa)
  (z:∀sp:Nat->Bool,(∀p∈before,sp p.block=true)->DataW.TrodVars enc P W' sp s.vars (s.fn H_ (ds++gs)).vars pv)
  (aa:before=pa++pv) (hk:kJ W W')
  (F:∀(j:Nat) (t:TypeId) (r:Value),f.resultTypes[j]?=some t->(v.resultList f.resultTypes.size)[j]?=some r->Value.okWide P W' .any 0 t r):
  s.post enc P f apart fresh handsOn again W args v W':=by
 have hold:∀p∈before,(fun b=>decide (b<W.heap.size)) p.block=true:=fun p hp=>by simpa using E.lt p hp
 refine⟨ds,gs,before,[],pa,pv,E,A _ _ _,u _ hold,z _ hold,hk.kept _,fun _=>?_⟩;have hlt:=E.lt;obtain⟨_,_,_,_,_,K,hn⟩:=E;refine⟨F,_,_,([]++pa)++pv,⟨[]++pa,pv,trodAll_append (u _ (fun _ _=>Z))<|A _ _ _,z _ (fun _ _=>Z),Z,?_,?_⟩,?_⟩
 ·intro b off hp;have C:MemPlace.cell b off∈before:=by simp_all
  rw[hk.frozen _<|hlt _ C];exact K b off C
 ·simp_all
 simp_all
end Go.Ev
namespace Go.Ev
variable [Env]
structure IK where
 k:IntKind
 n:Int
structure PO where
 b:Pos
 off:Nat
structure SL where
 b:Pos
 off:Nat
 len:Nat
def ON:V->Option IK
 | .int k n=>some ⟨k,n⟩
 | _=>none
def Qi:V->Option PO
 | .ptr b off=>some ⟨b,off⟩
 | _=>none
def Rk:V->Option SL
 | .slice b off len _=>some ⟨b,off,len⟩
 | _=>none
def Rj:V->Option Nat
 | .int _ (.ofNat i)=>some i
 | _=>none
def Ri:V->Option Bool
 | .bool b=>some b
 | _=>none
def Rl:V->Option (List V)
 | .tuple l=>some l
 | _=>none
def rowOf:cM->Option (List V)
 | .row cells _ _=>some cells
 | .own cells _=>some cells
 | _=>none
theorem Ce {v:V} {i:IK} (h:ON v=some i):v= .int i.k i.n:=by
 unfold ON at h;grind
def qe (U:I) (e:Nat) (v:Option V):HR:=Option.rec (motive:=fun _=>HR) (.err e) (fun v=>.val v U) v
theorem nM (U:I) (e:Nat) (v:Option V):qe U e v=match v with | some v=>.val v U | none=>.err e:=by cases v<;>rfl
structure QW where
 run:PT V->Option V
def oE (G:Cx) (x:Operand):QW:=
 match x with
 | .tmp k=>bif Nat.ble k 255 then⟨fun t=>kH t.s k⟩ else⟨fun t=>t.get k⟩
 | .const v=>⟨fun _=>qF v⟩
 | .global g=>⟨fun _=>bif Nat.ble (Nat.succ g) G.gl then some (.ptr (posOf g) 0) else none⟩
 | .func f=>⟨fun _=>some (.func f [] [])⟩
theorem jG (G:Cx) (x:Operand) (t:PT V):(oE G x).run t=bI G t x:=by
 cases x with
 | tmp k=>
  show(bif Nat.ble k 255 then(⟨fun t=>kH t.s k⟩:QW) else⟨fun t=>t.get k⟩).run t=t.get k
  grind [PT.qy,pe]
 | _=>rfl
structure QV where
 run:V->V->Option V
def JO (P:Program) (q:Bool) (o:BinOp) (ty:TypeId) (f:IntKind->Int->Int->V) (a b:V):Option V:=
 Option.rec (motive:=fun _=>Option V) (vV P q o ty a b) (fun i=>Option.rec (motive:=fun _=>Option V) (vV P q o ty a b) (fun j=>bif s7 i.k j.k then some (f i.k i.n j.n) else none) (ON b)) (ON a)
theorem Oc {P:Program} {q:Bool} {o:BinOp} {ty:TypeId} {f:IntKind->Int->Int->V} (h:∀k x k' y,vV P q o ty (.int k x) (.int k' y)=bif s7 k k' then some (f k x y) else none) (a b:V):JO P q o ty f a b=vV P q o ty a b:=by
 unfold JO;cases u:ON a with
 | none=>rfl
 | some i=>
  cases hb:ON b with
  | none=>rfl
  | some j=>
   rw[Ce u,Ce hb,h]
def Rt (_:IntKind) (x y:Int):V:=.bool (bR x y)
def Rq (_:IntKind) (x y:Int):V:=.bool (bR y x)
def Rs (_:IntKind) (x y:Int):V:=.bool (bif bR y x then false else true)
def Rp (_:IntKind) (x y:Int):V:=.bool (bif bR x y then false else true)
def Ro (_:IntKind) (x y:Int):V:=.bool (D x y)
def Rw (_:IntKind) (x y:Int):V:=.bool (bif D x y then false else true)
def Qg (k:IntKind) (x y:Int):V:=.int k (wr k<|Int.add x y)
def QR (k:IntKind) (x y:Int):V:=.int k (wr k<|Int.sub x y)
def Qt (k:IntKind) (x y:Int):V:=.int k (wr k<|Int.mul x y)
def O5 (P:Program) (q:Bool) (o:BinOp) (ty:TypeId):QV:=
 match o with
 | .lss=>⟨JO P q .lss ty Rt⟩
 | .gtr=>⟨JO P q .gtr ty Rq⟩
 | .leq=>⟨JO P q .leq ty Rs⟩
 | .geq=>⟨JO P q .geq ty Rp⟩
 | .eql=>⟨JO P q .eql ty Ro⟩
 | .neq=>⟨JO P q .neq ty Rw⟩
 | .add=>⟨JO P q .add ty Qg⟩
 | .sub=>⟨JO P q .sub ty QR⟩
 | .mul=>⟨JO P q .mul ty Qt⟩
 | o=>⟨fun a b=>vV P q o ty a b⟩
theorem NK (P:Program) (q:Bool) (o:BinOp) (ty:TypeId) (a b:V):(O5 P q o ty).run a b=vV P q o ty a b:=by
 cases o<;>first | rfl | exact Oc (fun _ _ _ _=>Z) a b
def O4 (c:QV) (x y:Option V):Option V:=
 Option.rec (motive:=fun _=>Option V) none (fun a=>Option.rec (motive:=fun _=>Option V) none (fun b=>c.run a b) y) x
def GK (c a b:Option V):Option V:=
 Option.rec (motive:=fun _=>Option V) none (fun c=>Option.rec (motive:=fun _=>Option V) none (fun c=>bif c then a else b) (Ri c)) c
def Pa (i:Nat) (x:Option V):Option V:=
 Option.rec (motive:=fun _=>Option V) none (fun x=>Option.rec (motive:=fun _=>Option V) none (fun l=>nth l i) (Rl x)) x
def Qs (ag:Option (Option Nat)) (cells:List V) (off:Nat):Option V:=
 Option.rec (motive:=fun _=>Option V) none (fun o=>Option.rec (motive:=fun _=>Option V) (nth cells off) (fun n=>bif Nat.ble (Nat.add off n) (cY cells) then some (.agg<|takeN (dP cells off) n) else none) o) ag
def C4 (ag:Option (Option Nat)) (U:I) (x:Option V):Option V:=
 Option.rec (motive:=fun _=>Option V) none (fun v=>Option.rec (motive:=fun _=>Option V) none (fun p=>Option.rec (motive:=fun _=>Option V) none
  (fun o=>Option.rec (motive:=fun _=>Option V) none (fun cells=>Qs ag cells p.off) (rowOf o)) (U.m.get p.b))<|Qi v) x
def ow (P:Program) (s:TypeId) (i:Nat):Option Nat:=
 match structOf P s with
 | some fs=>match fs[i]? with
  | some f=>match vz P f.type with
   | some j=>bif Nat.beq j.size 0 then none else some f.offset
   | none=>none
  | none=>none
 | none=>none
def PN (k:Option Nat) (x:Option V):Option V:=
 Option.rec (motive:=fun _=>Option V) none (fun k=>Option.rec (motive:=fun _=>Option V) none (fun v=>Option.rec (motive:=fun _=>Option V) none (fun p=>some (.ptr p.b<|Nat.add p.off k)) (Qi v)) x) k
structure IA where
 n:Option Nat
 sz:Nat
def xF (P:Program) (t:TypeId):Option IA:=
 match pT P t with
 | some (.slice e)=>match vz P e with | some j=>some ⟨none,j.size⟩ | none=>none
 | some (.array n e)=>match vz P e with | some j=>some ⟨some n,j.size⟩ | none=>none
 | _=>none
def Qr (q:IA) (v:V) (i:Nat):Option V:=
 Option.rec (motive:=fun _=>Option V)
  (Option.rec (motive:=fun _=>Option V) none (fun s=>bif Nat.ble (Nat.succ i) s.len then some (.ptr s.b<|Nat.add s.off<|Nat.mul i q.sz) else none)<|Rk v)
  (fun n=>Option.rec (motive:=fun _=>Option V) none (fun p=>bif Nat.ble (Nat.succ i) n then some (.ptr p.b<|Nat.add p.off<|Nat.mul i q.sz) else none) (Qi v)) q.n
def PQ (q:Option IA) (x i:Option V):Option V:=
 Option.rec (motive:=fun _=>Option V) none (fun q=>Option.rec (motive:=fun _=>Option V) none (fun v=>Option.rec (motive:=fun _=>Option V) none
  (fun w=>Option.rec (motive:=fun _=>Option V) none (fun i=>Qr q v i) (Rj w)) i) x) q
structure Qc where
 run:PT V->I->HR
def Co (P:Program) (G:Cx) (U:I) (f:Option V) (args:Option (List V)):HR:=
 Option.rec (motive:=fun _=>HR) (.err 12) (fun g=>Option.rec (motive:=fun _=>HR) (.err 12) (fun args=>zq P G.ov U g args) args) f
def HH (G:Cx) (l:List Operand) (t:PT V):Option (List V):=cU (fun x=>(oE G x).run t) l
def MC (P:Program) (G:Cx) (op:Op):Qc:=
 match op with
 | .move x=>⟨fun t U=>qe U 1001 ((oE G x).run t)⟩
 | .assign x=>⟨fun t U=>qe U 1002 ((oE G x).run t)⟩
 | .pick c a b=>⟨fun t U=>qe U 1003 (GK ((oE G c).run t) ((oE G a).run t) ((oE G b).run t))⟩
 | .binOp o ty x y _=>⟨fun t U=>qe U 1014 (O4 (O5 P (zQ x || zQ y) o ty) ((oE G x).run t) ((oE G y).run t))⟩
 | .extract x i=>⟨fun t U=>qe U 1036 (Pa i ((oE G x).run t))⟩
 | .load ty x=>⟨fun t U=>qe U 2009 (C4 (dO P ty) U ((oE G x).run t))⟩
 | .fieldAddr s x i=>⟨fun t U=>qe U 1024 (PN (ow P s i) ((oE G x).run t))⟩
 | .indexAddr ty x i=>⟨fun t U=>qe U 1026 (PQ (xF P ty) ((oE G x).run t) ((oE G i).run t))⟩
 | .call c=>match c.callee with
  | .value f=>⟨fun t U=>Co P G U ((oE G f).run t) (HH G c.args.toList t)⟩
  | _=>⟨fun t U=>dX P G (bI G t) U (.call c)⟩
 | op=>⟨fun t U=>dX P G (bI G t) U op⟩
theorem Kg (P:Program) (G:Cx) (op:Op) (t:PT V) (U:I):(MC P G op).run t U=dX P G (bI G t) U op:=by
 cases op with
 | move x=>show qe U 1001 ((oE G x).run t)=_;rw[jG,nM];rfl
 | assign x=>show qe U 1002 ((oE G x).run t)=_;rw[jG,nM];rfl
 | pick c a b=>
  show qe U 1003 (GK ((oE G c).run t) ((oE G a).run t) ((oE G b).run t))=_;rw[jG,jG,jG,nM]
  have:GK (bI G t c) (bI G t a) (bI G t b)=di P (bI G t) (.pick c a b):=by
   simp only[di,GK];cases bI G t c with
   | none=>rfl
   | some v=>cases v<;>first | rfl | (rename_i b;cases b<;>rfl)
  rw[this];rfl
 | binOp o ty x y r=>
  show qe U 1014 (O4 (O5 P (zQ x || zQ y) o ty) ((oE G x).run t) ((oE G y).run t))=_;rw[jG,jG,nM]
  have:O4 (O5 P (zQ x || zQ y) o ty) (bI G t x) (bI G t y)=di P (bI G t) (.binOp o ty x y r):=by
   simp only[di,O4];cases bI G t x with
   | none=>rfl
   | some v=>
    cases bI G t y with
    | none=>rfl
    | some u=>exact NK P _ o ty v u
  rw[this];rfl
 | extract x i=>
  show qe U 1036 (Pa i ((oE G x).run t))=_;rw[jG,nM]
  have:Pa i (bI G t x)=di P (bI G t) (.extract x i):=by
   simp only[di,Pa];cases bI G t x with
   | none=>rfl
   | some v=>cases v<;>rfl
  rw[this];rfl
 | load ty x=>
  show qe U 2009 (C4 (dO P ty) U ((oE G x).run t))=_;rw[jG,nM]
  have:C4 (dO P ty) U (bI G t x)=hJ P (bI G t) U (.load ty x):=by
   simp only[hJ,C4];cases bI G t x with
   | none=>rfl
   | some v=>
    cases v<;>first | rfl | skip
    rename_i b off;show Option.rec (motive:=fun _=>Option V) none _ (U.m.get b)=_;cases hb:U.m.get b with
    | none=>dsimp only;rw[hb]
    | some o=>
     dsimp only;rw[hb];cases o<;>first | rfl | skip
     all_goals
      show Qs (dO P ty) _ off=_;unfold Qs;cases dO P ty with
      | none=>rfl
      | some q=>cases q<;>rfl
  rw[this];rfl
 | fieldAddr s x i=>
  show qe U 1024 (PN (ow P s i) ((oE G x).run t))=_;rw[jG,nM]
  have:PN (ow P s i) (bI G t x)=di P (bI G t) (.fieldAddr s x i):=by
   simp only[di,ow,qA];cases structOf P s with
   | none=>rfl
   | some fs=>
    dsimp only;cases hx:bI G t x with
    | none=>
     cases fs[i]? with
     | none=>rfl
     | some f=>dsimp only;cases P.info? f.type with
      | none=>rfl
      | some j=>dsimp only;cases Nat.beq j.size 0<;>rfl
    | some v=>
     cases hf:fs[i]? with
     | none=>cases v<;>first | rfl | (simp only[hf];rfl)
     | some f=>
      dsimp only;cases hj:P.info? f.type with
      | none=>cases v<;>first | rfl | (simp only[hf,hj];rfl)
      | some j=>
       dsimp only;cases z:Nat.beq j.size 0<;>(cases v<;>first | rfl | (simp only[hf,hj,z];rfl))
  rw[this];rfl
 | indexAddr ty x i=>
  show qe U 1026 (PQ (xF P ty) ((oE G x).run t) ((oE G i).run t))=_;rw[jG,jG,nM]
  have:PQ (xF P ty) (bI G t x) (bI G t i)=di P (bI G t) (.indexAddr ty x i):=by
   simp only[di,xF,qA,oT];cases hu:P.underlying ty with
   | none=>rfl
   | some d=>
    cases d<;>first | rfl | skip
    all_goals
     dsimp only;rename_i e;cases hj:P.info? e with
     | none=>
      cases bI G t x with
      | none=>rfl
      | some v=>cases v<;>first | rfl | (cases bI G t i with
       | none=>rfl
       | some u=>cases u<;>first | rfl | (rename_i k n;cases n<;>first | rfl | (simp only[hj];rfl)))
     | some j=>
      cases bI G t x with
      | none=>rfl
      | some v=>cases v<;>first | (cases bI G t i with
       | none=>rfl
       | some u=>cases u<;>first | rfl | (rename_i k n;cases n<;>first | rfl | (simp only[hj];rfl)))
  rw[this];rfl
 | call c=>
  cases hc:c.callee with
  | value f=>
   have h1:(MC P G (.call c)).run t U=Co P G U ((oE G f).run t) (HH G c.args.toList t):=by
    show(match c.callee with
     | .value f=>(⟨fun t U=>Co P G U ((oE G f).run t) (HH G c.args.toList t)⟩:Qc)
     | _=>⟨fun t U=>dX P G (bI G t) U (.call c)⟩).run t U=_
    rw[hc]
   have A:dX P G (bI G t) U (.call c)=gK P G.ov (bI G t) U (.call c):=by
    grind [dX,kindOf]
   have C:HH G c.args.toList t=uw (bI G t) c.args.toList:=by
    unfold HH uw;congr 1;funext x;exact jG G x t
   rw[h1,A,jG,C];simp only[gK,hc,Co];cases bI G t f with
   | none=>rfl
   | some g=>cases uw (bI G t) c.args.toList<;>rfl
  | _=>
   show(match c.callee with
     | .value f=>(⟨fun t U=>Co P G U ((oE G f).run t) (HH G c.args.toList t)⟩:Qc)
     | _=>⟨fun t U=>dX P G (bI G t) U (.call c)⟩).run t U=_
   rw[hc]
 | _=>rfl
structure OY where
 run:PT V->V->Nat->(PT V->CR)->CR
structure Rg where
 run:V->PT V->PT V
def IJ (j:Nat):Rg:=
 bif Nat.ble j 255 then⟨fun v t=>PT.rec (motive:=fun _=>PT V) (fun s m l=>⟨(yJ<|Nat.div j 16).run s ((yJ<|Nat.mod j 16).run ((kB<|Nat.div j 16).run s)<|some v),m,l⟩) t⟩
 else⟨fun v t=>t.put (some v) j⟩
theorem Ol (j:Nat) (v:V) (t:PT V):(IJ j).run v t=t.put (some v) j:=by
 unfold IJ;cases h:Nat.ble j 255 with
 | true=>
  cases t with
  | mk s m l=>exact(PT.tK (some v) s m l ((pe j 255).1 h)).symm
 | false=>rfl
def Om (j:Nat) (v:V) (t:PT V):PT V:=(IJ j).run v t
theorem MI (j:Nat) (v:V) (t:PT V):Om j v t=t.put (some v) j:=Ol j v t
def BZ (n:Nat) (dst:Option Nat):OY:=
 match dst with
 | none=>⟨fun t _ _ k=>k t⟩
 | some j=>bif Nat.ble (Nat.succ j) n then⟨fun t v _ k=>k (Om j v t)⟩ else⟨fun _ _ e _=>.err e⟩
theorem Bm (n:Nat) (dst:Option Nat) (t:PT V) (v:V) (e:Nat) (k:PT V->CR):(BZ n dst).run t v e k=match dG t n dst v with | some t'=>k t' | none=>.err e:=by
 cases dst with
 | none=>rfl
 | some j=>
  show(bif Nat.ble (Nat.succ j) n then(⟨fun t v _ k=>k (Om j v t)⟩:OY) else⟨fun _ _ e _=>.err e⟩).run t v e k=_;show _=match(bif Nat.ble (Nat.succ j) n then some (t.put (some v) j) else none) with | some t'=>k t' | none=>.err e
  rw[<-MI]
  grind
structure Re where
 run:lD->List V->I->KR
def QN (P:Program) (G:Cx) (ih:lD) (fn:Func) (r:CR):KR:=
 match r with
 | .ok .normal t d U=>y7 P G ih fn .ret t d U
 | .ok .ret t d U=>y7 P G ih fn .ret t d U
 | .ok (.m9 v) t d U=>y7 P G ih fn (.m9 v) t d U
 | .err k=>.err k
 | _=>.err 72
def N5 (P:Program) (G:Cx) (fn:Func) (c:Code) (ih:lD) (args:List V) (U:I):KR:=
 Option.rec (motive:=fun _=>KR) (.err 73) (fun t=>QN P G ih fn (ih c t fn.ntmps [] none U)) (r6 fn.ntmps args)
def Qq (P:Program) (G:Cx) (f:Nat):Re:=
 match nth P.funcs.toList f with
 | some fn=>match fn.body with
  | some c=>⟨N5 P G fn c⟩
  | none=>⟨fun _ _ _=>.err 73⟩
 | none=>⟨fun _ _ _=>.err 74⟩
theorem N4 (P:Program) (G:Cx) (f:Nat) (ih:lD) (args:List V) (U:I):(Qq P G f).run ih args U=lG P G ih f args U:=by
 unfold Qq lG;rw[eL,aT_];cases P.funcs[f]? with
 | none=>rfl
 | some fn=>
  dsimp only;cases hb:fn.body with
  | none=>rfl
  | some c=>
   dsimp only;show N5 P G fn c ih args U=_;unfold N5;cases r6 fn.ntmps args with
   | none=>rfl
   | some t=>rfl
def Cm (P:Program) (G:Cx) (ih:lD) (f:Nat) (args:List V) (U:I):KR:=
 Option.rec (motive:=fun _=>KR) (Option.rec (motive:=fun _=>KR) (Option.rec (motive:=fun _=>KR) (bif G.fk f then sS (qx P G ih f args U) else(Qq P G f).run ih args U) (fun c=>.err c)<|G.stop f args U) (fun v=>bif eO args && (nC v && nY G.gl U G.laid) then .ret v U else .err 79)<|G.IL f args) (fun v=>bif nC v then .ret v U else .err 78) (G.II f args U)
theorem Cn (P:Program) (G:Cx) (ih:lD) (f:Nat) (args:List V) (U:I):Cm P G ih f args U=mN P G ih f args U:=by
 unfold Cm mN;rw[N4];cases G.II f args U with
 | some v=>rfl
 | none=>
 dsimp only;cases G.IL f args with
 | some v=>rfl
 | none=>
  dsimp only;cases G.stop f args U<;>rfl
structure Lv where
 run:lD->PT V->I->(PT V->I->CR)->CR
def Ms (k:PT V->I->CR) (U:I) (t:PT V):CR:=k t U
def QZ (pn:Bool) (c:OY) (t:PT V) (k:PT V->I->CR) (r:KR):CR:=
 KR.rec (motive:=fun _=>CR) (fun v U=>c.run t v 80 (Ms k U)) (fun v U=>MD pn v t U) (fun e=>.err e) r
def Mi (P:Program) (G:Cx) (ih:lD) (pn:Bool) (c:OY) (t:PT V) (k:PT V->I->CR) (r:HR):CR:=
 HR.rec (motive:=fun _=>CR) (fun v U=>c.run t v 80 (Ms k U)) (fun U=>c.run t unit 80 (Ms k U)) (fun f args U=>QZ pn c t k (Cm P G ih f args U)) (fun _ _ _=>.err 66) (fun v U=>MD pn v t U) (fun e=>.err e) r
def K9 (ops:Array Oper) (o:Oper) (c:OY) (t:PT V) (U:I) (k:PT V->I->CR) (go:CR) (w:Option Bool):CR:=
 Option.rec (motive:=fun _=>CR) (.err 85) (fun b=>bif b then go else c.run t unit 84 (Ms k U)) w
def Q9 (P:Program) (G:Cx) (j:Nat) (op:Op):Option Lv:=
 match op with
 | .move x=>some ⟨fun _ t U k=>Option.rec (motive:=fun _=>CR) (.err 1001) (fun v=>k ((IJ j).run v t) U) ((oE G x).run t)⟩
 | .assign x=>some ⟨fun _ t U k=>Option.rec (motive:=fun _=>CR) (.err 1002) (fun v=>k ((IJ j).run v t) U) ((oE G x).run t)⟩
 | .binOp o ty x y _=>some ⟨fun _ t U k=>Option.rec (motive:=fun _=>CR) (.err 1014) (fun v=>k ((IJ j).run v t) U) (O4 (O5 P (zQ x || zQ y) o ty) ((oE G x).run t) ((oE G y).run t))⟩
 | .extract x i=>some ⟨fun _ t U k=>Option.rec (motive:=fun _=>CR) (.err 1036) (fun v=>k ((IJ j).run v t) U) (Pa i ((oE G x).run t))⟩
 | .load ty x=>some ⟨fun _ t U k=>Option.rec (motive:=fun _=>CR) (.err 2009) (fun v=>k ((IJ j).run v t) U) (C4 (dO P ty) U ((oE G x).run t))⟩
 | .fieldAddr s x i=>some ⟨fun _ t U k=>Option.rec (motive:=fun _=>CR) (.err 1024) (fun v=>k ((IJ j).run v t) U) (PN (ow P s i) ((oE G x).run t))⟩
 | .indexAddr ty x i=>some ⟨fun _ t U k=>Option.rec (motive:=fun _=>CR) (.err 1026) (fun v=>k ((IJ j).run v t) U) (PQ (xF P ty) ((oE G x).run t) ((oE G i).run t))⟩
 | _=>none
theorem Ou {P:Program} {G:Cx} {pn:Bool} {n j:Nat} (hj:Nat.ble (Nat.succ j) n=true) {op:Op} {c:Lv} (h:Q9 P G j op=some c) (ih:lD) (t:PT V) (U:I) (k:PT V->I->CR):
  c.run ih t U k=Mi P G ih pn (BZ n<|some j) t k ((MC P G op).run t U):=by
 have key:∀(e:Nat) (x:Option V),Option.rec (motive:=fun _=>CR) (.err e) (fun v=>k ((IJ j).run v t) U) x=Mi P G ih pn (BZ n<|some j) t k (qe U e x):=by
  intro e x;cases x with
  | none=>rfl
  | some v=>
   show k ((IJ j).run v t) U=(BZ n<|some j).run t v 80 (Ms k U);unfold BZ;dsimp only;rw[hj];rfl
 cases op<;>first | (cases h;done) | (cases h;exact key _ _)
def QQ (P:Program) (G:Cx) (pn:Bool) (n:Nat) (o:Oper):Lv:=
 match o.dst with
 | some j=>bif Nat.ble (Nat.succ j) n then(match Q9 P G j o.op with | some c=>c | none=>⟨fun ih t U k=>Mi P G ih pn (BZ n<|some j) t k ((MC P G o.op).run t U)⟩) else⟨fun ih t U k=>Mi P G ih pn (BZ n<|some j) t k ((MC P G o.op).run t U)⟩
 | none=>⟨fun ih t U k=>Mi P G ih pn (BZ n none) t k ((MC P G o.op).run t U)⟩
theorem Ot (P:Program) (G:Cx) (pn:Bool) (n:Nat) (o:Oper) (ih:lD) (t:PT V) (U:I) (k:PT V->I->CR):(QQ P G pn n o).run ih t U k=Mi P G ih pn (BZ n o.dst) t k ((MC P G o.op).run t U):=by
 unfold QQ;cases hd:o.dst with
 | none=>rfl
 | some j=>
  dsimp only;cases hj:Nat.ble (Nat.succ j) n with
  | false=>rfl
  | true=>
   simp only[cond_true]
   grind [Ou]
def Lr (P:Program) (G:Cx) (pn:Bool) (ops:Array Oper) (n:Nat) (o:Oper):Lv:=
 match o.guard with
 | none=>QQ P G pn n o
 | some _=>⟨fun ih t U k=>K9 ops o (BZ n o.dst) t U k (Mi P G ih pn (BZ n o.dst) t k ((MC P G o.op).run t U)) (bS ops t o)⟩
theorem JN (P:Program) (G:Cx) (ih:lD) (pn:Bool) (n:Nat) (dst:Option Nat) (t:PT V) (k:PT V->I->CR) (r:HR):
  Mi P G ih pn (BZ n dst) t k r=match mh P G ih r with | .ret v U'=>(match dG t n dst v with | some t'=>k t' U' | none=>.err 80) | .m9 v U'=>MD pn v t U' | .err e=>.err e:=by
 cases r with
 | val v U=>show(BZ n dst).run t v 80 (Ms k U)=_;rw[Bm];rfl
 | skip U=>show(BZ n dst).run t unit 80 (Ms k U)=_;rw[Bm];rfl
 | enter f args U=>
  show QZ pn (BZ n dst) t k (Cm P G ih f args U)=_;rw[Cn];show _=match mN P G ih f args U with | .ret v U'=>_ | .m9 v U'=>_ | .err e=>_
  cases mN P G ih f args U with
  | ret v U'=>show(BZ n dst).run t v 80 (Ms k U')=_;rw[Bm];rfl
  | m9 v U'=>rfl
  | err e=>rfl
 | round l args U=>
  rfl
 | m9 v U=>rfl
 | err e=>rfl
theorem FA (P:Program) (G:Cx) (pn:Bool) (ops:Array Oper) (n:Nat) (o:Oper) (ih:lD) (t:PT V) (U:I) (k:PT V->I->CR):(Lr P G pn ops n o).run ih t U k=jx P G ih pn ops n o t U k:=by
 unfold Lr jx;cases hg:o.guard with
 | none=>
  grind [bS,Ot,JN,Kg]
 | some jw=>
  show K9 ops o (BZ n o.dst) t U k (Mi P G ih pn (BZ n o.dst) t k ((MC P G o.op).run t U)) (bS ops t o)=_;rw[JN,Kg];unfold K9;cases bS ops t o with
  | none=>rfl
  | some b=>
   grind [Ms,Bm]
def ML (P:Program) (G:Cx) (ops:Array Oper) (n:Nat) (l:List Oper):Lv:=
 List.rec (motive:=fun _=>Lv) ⟨fun _ t U k=>k t U⟩ (fun o _ c=>⟨fun ih t U k=>(Lr P G true ops n o).run ih t U (fun t U=>c.run ih t U k)⟩) l
def y6 (d:List DE) (t:PT V) (U:I):CR:=.ok .normal t d U
theorem GP (P:Program) (G:Cx) (ops:Array Oper) (n:Nat) (ih:lD) (d:List DE):∀(l:List Oper) (t:PT V) (U:I),(ML P G ops n l).run ih t U (y6 d)=uI P G ih ops n d l t U
 | [],t,U=>rfl
 | o::l,t,U=>by
  show(Lr P G true ops n o).run ih t U (fun t U=>(ML P G ops n l).run ih t U (y6 d))=jx P G ih true ops n o t U (uI P G ih ops n d l);rw[FA];congr 1;funext t' U';exact GP P G ops n ih d l t' U'
def Az (P:Program) (G:Cx) (ops:Array Oper) (rc:List Nat) (k:PT V->I->CR) (t:PT V) (U:I):CR:=bif dk P G ops t U rc then k t U else .err 86
def x9 (P:Program) (G:Cx) (ops:Array Oper) (n:Nat) (l:List (Nat×List Nat)):Lv:=
 List.rec (motive:=fun _=>Lv) ⟨fun _ t U k=>k t U⟩ (fun p _ c=>match nth ops.toList p.1 with
  | some o=>(match p.2 with
   | []=>⟨fun ih t U k=>(Lr P G false ops n o).run ih t U (fun t U=>c.run ih t U k)⟩
   | rc=>⟨fun ih t U k=>(Lr P G false ops n o).run ih t U (Az P G ops rc (fun t U=>c.run ih t U k))⟩)
  | none=>⟨fun _ _ _ _=>.err 87⟩) l
theorem ya (P:Program) (G:Cx) (ops:Array Oper) (n:Nat) (ih:lD) (d:List DE):∀(l:List (Nat×List Nat)) (t:PT V) (U:I),(x9 P G ops n l).run ih t U (y6 d)=kx P G ih ops n d l t U
 | [],t,U=>rfl
 | (i,rc)::l,t,U=>by
  show(match nth ops.toList i with
   | some o=>(match rc with
    | []=>(⟨fun ih t U k=>(Lr P G false ops n o).run ih t U (fun t U=>(x9 P G ops n l).run ih t U k)⟩:Lv)
    | rc=>⟨fun ih t U k=>(Lr P G false ops n o).run ih t U (Az P G ops rc (fun t U=>(x9 P G ops n l).run ih t U k))⟩)
   | none=>⟨fun _ _ _ _=>.err 87⟩).run ih t U (y6 d)=(match ops[i]? with
   | some o=>jx P G ih false ops n o t U (fun t' U'=>bif dk P G ops t' U' rc then kx P G ih ops n d l t' U' else .err 86)
   | none=>.err 87)
  rw[eL,aT_];cases ops[i]? with
  | none=>rfl
  | some o=>
   dsimp only;cases rc with
   | nil=>
    show(Lr P G false ops n o).run ih t U (fun t U=>(x9 P G ops n l).run ih t U (y6 d))=_;rw[FA];congr 1;funext t' U';exact ya P G ops n ih d l t' U'
   | cons q rc=>
    show(Lr P G false ops n o).run ih t U (Az P G ops (q::rc) (fun t U=>(x9 P G ops n l).run ih t U (y6 d)))=_;rw[FA];congr 1;funext t' U';unfold Az;dsimp only;rw[ya P G ops n ih d l t' U']
structure Qb where
 run:lD->PT V->List DE->Option Pos->I->CR
def Qj (P:Program) (G:Cx) (c:Code) (n:Nat):Qb:=
 match c with
 | .skip | .label _=>⟨fun _ t d _ U=>.ok .normal t d U⟩
 | .region _ ops draw=>bif draw then(bif uy P ops then⟨fun ih t d _ U=>(x9 P G ops n<|j1 P ops).run ih t U (y6 d)⟩ else⟨fun _ _ _ _ _=>.err 88⟩)
   else(bif mW ops.toList then⟨fun _ _ _ _ _=>.err 96⟩ else⟨fun ih t d _ U=>CI d ((ML P G ops n ops.toList).run ih t U<|y6 d)⟩)
 | .seq a b=>⟨fun ih t d ro U=>zh (ih a t n d ro U) (fun t d U=>ih b t n d ro U)⟩
 | .cond x a b=>⟨fun ih t d ro U=>zy ((oE G x).run t) (ih a t n d ro U) (ih b t n d ro U)⟩
 | .block id b=>⟨fun ih t d ro U=>ui id (ih b t n d ro U)⟩
 | .scope b=>⟨fun ih t d ro U=>Fv (ih b t n d ro U)⟩
 | .loop b=>⟨fun ih t d ro U=>zh (ih b t n d ro U) (fun t d U=>ih (.loop b) t n d ro U)⟩
 | .exit id=>⟨fun _ t d _ U=>.ok (.exit id) t d U⟩
 | .ret=>⟨fun _ t d _ U=>.ok .ret t d U⟩
 | _=>⟨fun _ _ _ _ _=>.err 99⟩
theorem NO (P:Program) (G:Cx) (c:Code) (n:Nat) (ih:lD) (t:PT V) (d:List DE) (ro:Option Pos) (U:I):(Qj P G c n).run ih t d ro U=GY P G ih c t n d ro U:=by
 cases c with
 | region id ops draw=>
  cases draw with
  | false=>
   show(bif mW ops.toList then(⟨fun _ _ _ _ _=>.err 96⟩:Qb) else⟨fun ih t d _ U=>CI d ((ML P G ops n ops.toList).run ih t U<|y6 d)⟩).run ih t d ro U=bif mW ops.toList then .err 96 else CI d (uI P G ih ops n d ops.toList t U)
   grind [GP]
  | true=>
   show(bif uy P ops then(⟨fun ih t d _ U=>(x9 P G ops n<|j1 P ops).run ih t U (y6 d)⟩:Qb) else⟨fun _ _ _ _ _=>.err 88⟩).run ih t d ro U=vw P G ih ops n d t U
   grind [vw,ya]
 | cond x a b=>show zy ((oE G x).run t) _ _=_;rw[jG];rfl
 | _=>rfl
def Oo (P:Program) (G:Cx) (fuel:Nat):lD:=Nat.rec (motive:=fun _=>lD) (fun _ _ _ _ _ _=>.err 100) (fun _ ih c t n d ro U=>(Qj P G c n).run ih t d ro U) fuel
theorem GV (P:Program) (G:Cx):∀(fuel:Nat),Oo P G fuel=eB P G fuel
 | 0=>rfl
 | k+1=>by
  funext c t n d ro U;show(Qj P G c n).run (Oo P G k) t d ro U=GY P G (eB P G k) c t n d ro U;rw[NO,GV P G k]
def CE (P:Program) (G:Cx) (fuel:Nat) (f:Nat) (args:List V) (U:I):KR:=Cm P G (Oo P G fuel) f args U
theorem JA (P:Program) (G:Cx) (fuel:Nat) (f:Nat) (args:List V) (U:I):CE P G fuel f args U=xl P G fuel f args U:=by
 unfold CE xl;rw[Cn,GV]
end Go.Ev
namespace Go.Ev
variable [Env]
open Go.ChangeShapes Go.WideShapes Go.ChangeAt Go.RowKit
def zL (one:TypeId->DataW Unit->Option (List Value)) (P:Program):List (Nat×TypeId)->Nat->List (DataW Unit)->Option (List Value)
 | [],_,[]=>some []
 | (o,t)::l,off,d::ds=>
  match one t d,zL one P l (off+P.cellsOf t) ds with
  | some vs,some us=>if o=off/\vs.length=P.cellsOf t then some (vs++us) else none
  | _,_=>none
 | _,_,_=>none
def sf (P:Program):Nat->TypeId->DataW Unit->Option (List Value)
 | 0,_,_=>none
 | n+1,t,d=>
  match P.underlying t,d with
  | some .bool,.lit (.bool b)=>some [.bool b]
  | some (.int k),.lit (.int k' i)=>if k'=k then some [.int k i] else none
  | some (.struct fs),.agg ps=>match zL (sf P n) P (fs.toList.map fun f=>(f.offset,f.type)) 0 ps with
   | some vs=>if vs.length=P.cellsOf t then some vs else none
   | none=>none
  | some (.array m e),.agg ps=>match zL (sf P n) P ((List.range m).map fun i=>(i*P.cellsOf e,e)) 0 ps with
   | some vs=>if vs.length=P.cellsOf t then some vs else none
   | none=>none
  | _,_=>none
theorem xq {P:Program} {w:World} {base:Nat} {sp:Nat->Bool} {held:Bool} {fuel:Nat} {one:TypeId->DataW Unit->Option (List Value)} {cs:List Value}
  (ih:∀t l d p vs,DataW.trod (fun _=>()) P w base sp held fuel t l=some (d,p)->one t d=some vs->l=vs) {α:Type} (g:α->Nat×TypeId):
  ∀(l:List α) (off:Nat) (xs:List (DataW Unit×List MemPlace)) (vs:List Value),
   (l.mapM fun x=>DataW.trod (fun _=>()) P w base sp held fuel (g x).2 ((cs.drop (g x).1).take<|P.cellsOf (g x).2))=some xs->zL one P (l.map g) off (xs.map (·.1))=some vs->
   (cs.drop off).take vs.length=vs
 | [],off,xs,vs,h,hf=>by
  simp at h;subst h;simp[zL] at hf;subst hf;simp
 | x::l,off,xs,vs,h,hf=>by
  simp only[List.mapM_cons,Option.bind_eq_bind,Option.bind_eq_some_iff,Option.pure_def,oJ_] at h;obtain⟨⟨d,p⟩,h1,r,u,rfl⟩:=h;simp only[List.map_cons,zL] at hf;split at hf
  ·rename_i v1 z e1 A;split at hf
   ·rename_i hc;obtain⟨ho,hl⟩:=hc;cases hf;have k1:=ih _ _ _ _ _ h1 e1;have k2:=xq ih g l _ r z u A
    grind [List.drop_drop]
   cases hf
  cases hf
theorem CJ {P:Program} {w:World} {base:Nat} {sp:Nat->Bool} {held:Bool}:∀(m fuel:Nat) (t:TypeId) (cs:List Value) (d:DataW Unit) (p:List MemPlace) (vs:List Value),
  DataW.trod (fun _=>()) P w base sp held fuel t cs=some (d,p)->sf P m t d=some vs->cs=vs
 | 0,_,_,_,_,_,_,_,h=>by cases h
 | _+1,0,_,_,_,_,_,h,_=>by simp[DataW.trod] at h
 | m+1,fuel+1,t,cs,d,p,vs,h,hf=>by
  have ih:∀t l d p vs,DataW.trod (fun _=>()) P w base sp held fuel t l=some (d,p)->sf P m t d=some vs->l=vs:=fun t l d p vs=>CJ m fuel t l d p vs
  simp only[sf] at hf;split at hf
  ·rename_i hu;cases hf;unfold DataW.trod at h
   grind
  ·rename_i hu;split at hf
   ·rename_i hk;cases hf;unfold DataW.trod at h
    grind
   cases hf
  ·rename_i fs ps hu;split at hf
   ·rename_i vs' z;split at hf
    ·rename_i hl;cases hf;unfold DataW.trod at h;rw[hu] at h;dsimp only at h;split at h
     ·rename_i A;obtain⟨xs,hm,hx⟩:=oM_.1 h;have u:ps=xs.map (·.1):=by simp_all
      subst u;have:=xq (cs:=cs) ih (fun f:Field=>(f.offset,f.type)) fs.toList 0 xs vs hm z
      grind
     cases h
    cases hf
   cases hf
  ·rename_i n e ps hu;split at hf
   ·rename_i vs' z;split at hf
    ·rename_i hl;cases hf;unfold DataW.trod at h;rw[hu] at h;dsimp only at h;split at h
     ·rename_i A;obtain⟨xs,hm,hx⟩:=oM_.1 h;have u:ps=xs.map (·.1):=by simp_all
      subst u;have:=xq (cs:=cs) ih (fun i:Nat=>(i*P.cellsOf e,e)) (List.range n) 0 xs vs hm z
      grind
     cases h
    cases hf
   cases hf
  cases hf
theorem pA {P:Program} {w:World} {l:List (String×DataW Unit)} (n:String) {d:DataW Unit} {g:Nat} {t:TypeId} {m:Nat} {vs:List Value}
  (h:laidMetH P l w) (hl:l.filter (fun x=>x.1 == n)= [(n,d)]) (hd:d.handleName?=none) (z:P.globalNamed n=some g) (C:(P.globals[g]?).map (·.type)=some t) (hf:sf P m t d=some vs):
  ∃e fr,w.heap[g]?=some (.cells vs.toArray e fr):=by
 have h1:=h.filter fun x=>x.1 == n
 rw[hl] at h1
 have E:laidMet P [(n,d)] w:=by
  grind [laidMetH]
 obtain⟨ps,⟨g',t',cs,fuel,p,q,A,k2,u,F,_,_⟩,_,_⟩:=E;rw[z] at A;cases A;rw[C] at k2;cases k2;have k5:=CJ m fuel t cs.toList d p vs F hf;unfold World.var? at u;rw[z] at u;simp only[Option.bind_some] at u;split at u
 ·rename_i cs' e fr G;cases u;exact⟨e,fr,by rw[G,<-k5]⟩
 cases u
theorem wH {α β:Type} {f:α->Option β}:∀{l:List α} {r:List β},cU f l=some r->r.length=l.length/\∀(i:Nat) (v:β),r[i]?=some v->∃y,l[i]?=some y/\f y=some v
 | [],r,h=>by
  rw[iO] at h;simp_all
 | x::l,r,h=>by
  obtain⟨y,r',h1,u,rfl⟩:=hY h;obtain⟨k1,k2⟩:=wH u
  grind
theorem lO.of {w:World} {g:Nat} {cells:List V} {vs:List Value} {e:TypeId} {fr:Nat×Nat} (hb:w.heap[g]?=some (.cells vs.toArray e fr)) (hv:cU kZ vs=some cells):lO w (g,cells):=by
 obtain⟨u,k2⟩:=wH hv;refine⟨vs.toArray,e,fr,hb,by simp[u],fun i v hi=>?_⟩
 grind [pH]
def UG (gl:Nat) (l:List (Nat×List V)) (E:Nat->TypeId):I:=⟨gl,JT l E⟩
theorem UG_get {gl:Nat} {l:List (Nat×List V)} {E:Nat->TypeId} {b:Nat} {o:cM} (h:(UG gl l E).m.get b=some o):∃x∈l,x.1=b/\o= .row x.2 (E x.1) true:=Fa E h
def yw (w:World) (b:Nat):Nat:=
 match w.heap[b]? with
 | some (.cells cs _ _)=>cs.size
 | _=>0
def elemAt (w:World) (b:Nat):TypeId:=
 match w.heap[b]? with
 | some (.cells _ e _)=>e
 | _=>0
def SG (w:World) (gl:Nat):dg:=fun b=>if b<gl then some ⟨b,0,yw w b⟩ else none
theorem SG_some {w:World} {gl:Nat} {b:Nat} {l:Loc} (h:SG w gl b=some l):b<gl/\l=⟨b,0,yw w b⟩:=by
 unfold SG at h
 simp_all
def BS (gl:Nat) (l:List (Nat×List V)):Bool:=l.all fun x=>Nat.blt x.1 gl && eO x.2
theorem Pd {w:World} {gl:Nat} {l:List (Nat×List V)} (E:IP w) (ab:gl<=w.heap.size) (z:BS gl l=true) (hl:∀x∈l,lO w x):Inv (SG w gl) (UG gl l<|elemAt w) w:=by
 have aa:∀x∈l,x.1<gl/\eO x.2=true:=fun x hx=>by
  have:=aE_.1 z x hx
  simp_all
 refine⟨⟨fun b hb=>?_,fun b l' h=>?_,fun b o l' h1 u=>?_,fun b b' o o' l1 l2 h1 u h3 h4 he ac=>?_⟩,E.1,E.2,fun r _ ⟨b,o,l',h1,u,_,_⟩=>by
  obtain⟨x,_,_,rfl⟩:=UG_get h1;cases u⟩
 ·have A:¬b<gl:=Nat.not_lt.2 hb;refine⟨by unfold SG;rw[if_neg A],?_⟩;cases h:(UG gl l<|elemAt w).m.get b with
  | none=>rfl
  | some o=>
   obtain⟨x,hx,rfl,_⟩:=UG_get h
   grind
 ·obtain⟨hb,rfl⟩:=SG_some h
  grind
 ·obtain⟨x,hx,rfl,rfl⟩:=UG_get h1;obtain⟨hb,rfl⟩:=SG_some u;obtain⟨c,e,fr,C,k2,k3⟩:=hl x hx;have F:yw w x.1=c.size:=by unfold yw;rw[C]
  have he:elemAt w x.1=e:=by unfold elemAt;rw[C]
  refine⟨_,C,c,fr,by rw[he],?_,?_,fun i v hv=>?_,fun h=>by cases h⟩
  ·simp[F]
  ·simp_all
  grind [oy,lE]
 obtain⟨x,hx,rfl,rfl⟩:=UG_get h1;obtain⟨y,hy,rfl,rfl⟩:=UG_get u;exact⟨Z,Z⟩
theorem kJ.MA {w w':World} {gl:Nat} {l:List (Nat×List V)} {E:Nat->TypeId} {S S':dg} {U':I} (h:fj S (UG gl l E) w S' U' w'):kJ w w':=
 ⟨h.os,h.out,h.tape,h.size,fun r u=>h.frame r u fun⟨b,o,l',h1,z,_⟩=>by
  obtain⟨x,_,_,rfl⟩:=UG_get h1;cases z⟩
def qT:KR->Bool
 | .ret (.bool true) _=>true
 | _=>false
theorem Bx {r:KR} (h:qT r=true):∃U,r= .ret (.bool true) U:=by
 unfold qT at h
 grind
theorem Es {P:Program} {G:Cx} (hm:P.follows .mixedOrders=true) (A:B0 P G) {fuel f:Nat} {w:World} (C:IP w) (u:G.gl<=w.heap.size) (z:BS G.gl G.laid=true) (hl:∀x∈G.laid,lO w x)
  (h:∀E,qT (CE P G fuel f [] (UG G.gl G.laid E))=true):Calls P f #[] w fun e w'=>e= .returned (.bool true)/\kJ w w':=by
 have h:=h (elemAt w);rw[JA] at h;obtain⟨U,h⟩:=Bx h;refine qu hm A h (Pd C u z hl) (fun g F=>⟨_,by show SG w G.gl g=_;unfold SG;rw[if_pos F]⟩) dt.nil fun S' w' x _ st hv=>?_
 grind [VR,kJ.MA]
theorem E9 {P:Program} {G:Cx} (hm:P.follows .mixedOrders=true) (A:B0 P G) {fuel f:Nat} (u:BS G.gl G.laid=true) (h:∀E,qT (CE P G fuel f [] (UG G.gl G.laid E))=true):FY P G.gl G.laid f [] (.bool true):=fun w xs z C hl hx=>by
 have:xs= #[]:=by
  have:=hx.fb
  simp_all
 subst this;exact(Es hm A (w:=w) C z u hl h).mono fun e w' ⟨h1,F⟩=>⟨_,h1,by simp only[VR],F⟩
end Go.Ev
namespace Go.Ev
variable [Env]
section
variable {P:Program} {G:Cx}
def Ev (P:Program) (G:Cx) (c:Code) (n:Nat) (t:PT V) (U:I) (Q:Ex->PT V->I->Prop):Prop:=
 ∃(K:Nat) (e:Ex) (t':PT V) (U':I),(∀k,K<=k->eB P G k c t n [] none U= .ok e t' [] U')/\Q e t' U'
def bm (P:Program) (G:Cx) (f:Nat) (args:List V) (U:I) (R:V->I->Prop):Prop:=
 ∃(K:Nat) (v:V) (U':I),(∀k,K<=k->mN P G (eB P G k) f args U= .ret v U')/\R v U'
def bV (P:Program) (G:Cx) (ops:Array Oper) (n:Nat) (l:List Oper) (t:PT V) (U:I) (Q:Ex->PT V->I->Prop):Prop:=
 ∃(K:Nat) (e:Ex) (t':PT V) (U':I),(∀k,K<=k->uI P G (eB P G k) ops n [] l t U= .ok e t' [] U')/\Q e t' U'
def cG (P:Program) (G:Cx) (ops:Array Oper) (n:Nat) (l:List (Nat×List Nat)) (t:PT V) (U:I) (Q:Ex->PT V->I->Prop):Prop:=
 ∃(K:Nat) (e:Ex) (t':PT V) (U':I),(∀k,K<=k->kx P G (eB P G k) ops n [] l t U= .ok e t' [] U')/\Q e t' U'
theorem Ev.mono {c:Code} {n:Nat} {t:PT V} {U:I} {Q Q':Ex->PT V->I->Prop} (h:Ev P G c n t U Q) (hq:∀e t' U',Q e t' U'->Q' e t' U'):Ev P G c n t U Q':=
 let ⟨K,e,t',U',h1,u⟩:=h;⟨K,e,t',U',h1,hq _ _ _ u⟩
theorem bm.mono {f:Nat} {args:List V} {U:I} {R R':V->I->Prop} (h:bm P G f args U R) (hq:∀v U',R v U'->R' v U'):bm P G f args U R':=
 let ⟨K,v,U',h1,u⟩:=h;⟨K,v,U',h1,hq _ _ u⟩
section
variable {n:Nat} {t:PT V} {U:I} {Q:Ex->PT V->I->Prop}
theorem aG (h:Q .normal t U):Ev P G .skip n t U Q:=⟨1,.normal,t,U,fun k hk=>by obtain⟨j,rfl⟩:∃j,k=j+1:=⟨k-1,by omega⟩;rfl,h⟩
theorem Jx {l:Nat} (h:Q .normal t U):Ev P G (.label l) n t U Q:=⟨1,.normal,t,U,fun k hk=>by obtain⟨j,rfl⟩:∃j,k=j+1:=⟨k-1,by omega⟩;rfl,h⟩
theorem bu {id:Nat} (h:Q (.exit id) t U):Ev P G (.exit id) n t U Q:=⟨1,_,t,U,fun k hk=>by obtain⟨j,rfl⟩:∃j,k=j+1:=⟨k-1,by omega⟩;rfl,h⟩
theorem aC (h:Q .ret t U):Ev P G .ret n t U Q:=⟨1,_,t,U,fun k hk=>by obtain⟨j,rfl⟩:∃j,k=j+1:=⟨k-1,by omega⟩;rfl,h⟩
def cP (P:Program) (G:Cx) (n:Nat) (b:Code) (Q:Ex->PT V->I->Prop) (e:Ex) (t:PT V) (U:I):Prop:=
 match e with
 | .normal=>Ev P G b n t U Q
 | e=>Q e t U
theorem ak {a b:Code} (h:Ev P G a n t U (cP P G n b Q)):Ev P G (.seq a b) n t U Q:=by
 obtain⟨K,e,t',U',h1,u⟩:=h
 have step:∀k,K<=k->eB P G (k+1) (.seq a b) t n [] none U=zh (.ok e t' [] U') (fun t d U=>eB P G k b t n d none U):=fun k hk=>by
  show zh (eB P G k a t n [] none U) (fun t d U=>eB P G k b t n d none U)=_;rw[h1 k hk]
 cases e with
 | normal=>
  obtain⟨z,A,C,E,F,h4⟩:=u;refine⟨max K z+1,A,C,E,fun k hk=>?_,h4⟩;obtain⟨j,rfl⟩:∃j,k=j+1:=⟨k-1,by omega⟩;rw[step j B];exact F j B
 | _=>
  refine⟨K+1,_,t',U',fun k hk=>?_,u⟩;obtain⟨j,rfl⟩:∃j,k=j+1:=⟨k-1,by omega⟩;rw[step j B];rfl
theorem AR {x:Operand} {a b:Code} {c:Bool} (hc:bI G t x=some (.bool c)) (h:Ev P G (if c then a else b) n t U Q):Ev P G (.cond x a b) n t U Q:=by
 obtain⟨K,e,t',U',h1,u⟩:=h;refine⟨K+1,e,t',U',fun k hk=>?_,u⟩;obtain⟨j,rfl⟩:∃j,k=j+1:=⟨k-1,by omega⟩;show zy (bI G t x) (eB P G j a t n [] none U) (eB P G j b t n [] none U)=_;rw[hc];have:=h1 j B;cases c<;>exact this
def iP (id:Nat) (Q:Ex->PT V->I->Prop) (e:Ex) (t:PT V) (U:I):Prop:=
 match e with
 | .exit j=>if j=id then Q .normal t U else Q (.exit j) t U
 | e=>Q e t U
theorem aO {id:Nat} {b:Code} (h:Ev P G b n t U (iP id Q)):Ev P G (.block id b) n t U Q:=by
 obtain⟨K,e,t',U',h1,u⟩:=h
 have step:∀k,K<=k->eB P G (k+1) (.block id b) t n [] none U=ui id (.ok e t' [] U'):=fun k hk=>by
  show ui id (eB P G k b t n [] none U)=_;rw[h1 k hk]
 cases e with
 | exit q=>
  by_cases hq:q=id
  ·subst hq;refine⟨K+1,.normal,t',U',fun k hk=>?_,by simpa [iP] using u⟩;obtain⟨j,rfl⟩:∃j,k=j+1:=⟨k-1,by omega⟩;rw[step j B];show(bif Nat.beq q q then _ else _)=_
   simp_all
  refine⟨K+1,.exit q,t',U',fun k hk=>?_,by simpa [iP,hq] using u⟩;obtain⟨j,rfl⟩:∃j,k=j+1:=⟨k-1,by omega⟩;rw[step j B];show(bif Nat.beq q id then _ else _)=_
  grind [nB]
 | _=>
  refine⟨K+1,_,t',U',fun k hk=>?_,u⟩;obtain⟨j,rfl⟩:∃j,k=j+1:=⟨k-1,by omega⟩;rw[step j B];rfl
theorem L3 {b:Code} (I_:Nat->PT V->I->Prop) (step:∀j t U,I_ j t U->Ev P G b n t U (fun e t' U'=>match e with | .normal=>∃i,i<j/\I_ i t' U' | e=>Q e t' U')):
  ∀(j:Nat) (t:PT V) (U:I),I_ j t U->Ev P G (.loop b) n t U Q:=by
 intro j;induction j using Nat.strongRecOn with
 | _ j ih=>
  intro t U A;obtain⟨K,e,t',U',h1,z⟩:=step j t U A
  have st:∀k,K<=k->eB P G (k+1) (.loop b) t n [] none U=zh (.ok e t' [] U') (fun t d U=>eB P G k (.loop b) t n d none U):=fun k hk=>by
   show zh (eB P G k b t n [] none U) (fun t d U=>eB P G k (.loop b) t n d none U)=_;rw[h1 k hk]
  cases e with
  | normal=>
   obtain⟨i,hi,u⟩:=z;obtain⟨C,E,F,L,M,h4⟩:=ih i hi t' U' u;refine⟨max K C+1,E,F,L,fun k hk=>?_,h4⟩;obtain⟨q,rfl⟩:∃q,k=q+1:=⟨k-1,by omega⟩;rw[st q B];exact M q B
  | _=>
   refine⟨K+1,_,t',U',fun k hk=>?_,z⟩;obtain⟨q,rfl⟩:∃q,k=q+1:=⟨k-1,by omega⟩;rw[st q B];rfl
theorem ai {id:Nat} {ops:Array Oper} (u:mW ops.toList=false) (h:bV P G ops n ops.toList t U Q):Ev P G (.region id ops false) n t U Q:=by
 obtain⟨K,e,t',U',h1,z⟩:=h;refine⟨K+1,e,t',U',fun k hk=>?_,z⟩;obtain⟨j,rfl⟩:∃j,k=j+1:=⟨k-1,by omega⟩;show(bif mW ops.toList then .err 96 else CI [] (uI P G (eB P G j) ops n [] ops.toList t U))=_;rw[u,h1 j B];cases e<;>rfl
theorem xk {id:Nat} {ops:Array Oper} (hf:uy P ops=true) (h:cG P G ops n (j1 P ops) t U Q):Ev P G (.region id ops true) n t U Q:=by
 obtain⟨K,e,t',U',h1,u⟩:=h;refine⟨K+1,e,t',U',fun k hk=>?_,u⟩;obtain⟨j,rfl⟩:∃j,k=j+1:=⟨k-1,by omega⟩;show vw P G (eB P G j) ops n [] t U=_;unfold vw
 simp_all
theorem af {ops:Array Oper} (h:Q .normal t U):bV P G ops n [] t U Q:=⟨0,.normal,t,U,fun _ _=>Z,h⟩
theorem O {ops:Array Oper} {o:Oper} {l:List Oper} {v:V} {t':PT V} {U':I} (hw:bS ops t o=some true) (hv:dX P G (bI G t) U o.op= .val v U') (hp:dG t n o.dst v=some t') (h:bV P G ops n l t' U' Q):bV P G ops n (o::l) t U Q:=by
 obtain⟨K,e,u,z,h1,A⟩:=h;refine⟨K,e,u,z,fun k hk=>?_,A⟩;show jx P G (eB P G k) true ops n o t U (uI P G (eB P G k) ops n [] l)=_
 grind [jx,mh]
theorem iR {ops:Array Oper} {o:Oper} {l:List Oper} {t':PT V} {U':I} (hw:bS ops t o=some true) (hv:dX P G (bI G t) U o.op= .skip U') (hp:dG t n o.dst unit=some t') (h:bV P G ops n l t' U' Q):bV P G ops n (o::l) t U Q:=by
 obtain⟨K,e,u,z,h1,A⟩:=h;refine⟨K,e,u,z,fun k hk=>?_,A⟩;show jx P G (eB P G k) true ops n o t U (uI P G (eB P G k) ops n [] l)=_
 grind [jx,mh]
theorem ah {ops:Array Oper} {o:Oper} {l:List Oper} {t':PT V} (hw:bS ops t o=some false) (hp:dG t n o.dst unit=some t') (h:bV P G ops n l t' U Q):bV P G ops n (o::l) t U Q:=by
 obtain⟨K,e,u,z,h1,A⟩:=h;refine⟨K,e,u,z,fun k hk=>?_,A⟩;show jx P G (eB P G k) true ops n o t U (uI P G (eB P G k) ops n [] l)=_;unfold jx
 simp_all
theorem ES {ops:Array Oper} {o:Oper} {l:List Oper} {f:Nat} {args:List V} {u:I} (hw:bS ops t o=some true) (hv:dX P G (bI G t) U o.op= .enter f args u)
  (h:bm P G f args u fun v U'=>∃t',dG t n o.dst v=some t'/\bV P G ops n l t' U' Q):bV P G ops n (o::l) t U Q:=by
 obtain⟨K,v,U',h1,t',hp,z,e,A,C,h3,h4⟩:=h;refine⟨max K z,e,A,C,fun k hk=>?_,h4⟩;show jx P G (eB P G k) true ops n o t U (uI P G (eB P G k) ops n [] l)=_
 grind [jx,mh]
theorem aY {ops:Array Oper} (h:Q .normal t U):cG P G ops n [] t U Q:=⟨0,.normal,t,U,fun _ _=>Z,h⟩
theorem al {ops:Array Oper} {i:Nat} {o:Oper} {l:List (Nat×List Nat)} {v:V} {t':PT V} {U':I} (hi:ops[i]?=some o) (hw:bS ops t o=some true) (hv:dX P G (bI G t) U o.op= .val v U') (hp:dG t n o.dst v=some t') (h:cG P G ops n l t' U' Q):cG P G ops n ((i,[])::l) t U Q:=by
 obtain⟨K,e,u,z,h1,A⟩:=h;refine⟨K,e,u,z,fun k hk=>?_,A⟩
 show(match ops[i]? with
  | some o=>jx P G (eB P G k) false ops n o t U (fun t' U'=>bif dk P G ops t' U' [] then kx P G (eB P G k) ops n [] l t' U' else .err 86)
  | none=>.err 87)=_
 rw[hi];unfold jx;dsimp only;rw[hw];dsimp only;rw[hv];dsimp only[mh];rw[hp];exact h1 k hk
theorem aw {ops:Array Oper} {i:Nat} {o:Oper} {l:List (Nat×List Nat)} {t':PT V} (hi:ops[i]?=some o) (hw:bS ops t o=some false) (hp:dG t n o.dst unit=some t') (h:cG P G ops n l t' U Q):cG P G ops n ((i,[])::l) t U Q:=by
 obtain⟨K,e,u,z,h1,A⟩:=h;refine⟨K,e,u,z,fun k hk=>?_,A⟩
 show(match ops[i]? with
  | some o=>jx P G (eB P G k) false ops n o t U (fun t' U'=>bif dk P G ops t' U' [] then kx P G (eB P G k) ops n [] l t' U' else .err 86)
  | none=>.err 87)=_
 rw[hi];unfold jx;dsimp only;rw[hw];dsimp only;rw[hp];exact h1 k hk
theorem CC {ops:Array Oper} {i:Nat} {o:Oper} {rc:List Nat} {l:List (Nat×List Nat)} {f:Nat} {args:List V} {u:I} (hi:ops[i]?=some o) (hw:bS ops t o=some true) (hv:dX P G (bI G t) U o.op= .enter f args u)
  (h:bm P G f args u fun v U'=>∃t',dG t n o.dst v=some t'/\dk P G ops t' U' rc=true/\cG P G ops n l t' U' Q):cG P G ops n ((i,rc)::l) t U Q:=by
 obtain⟨K,v,U',h1,t',hp,hs,z,e,A,C,h3,h4⟩:=h;refine⟨max K z,e,A,C,fun k hk=>?_,h4⟩
 show(match ops[i]? with
  | some o=>jx P G (eB P G k) false ops n o t U (fun t' U'=>bif dk P G ops t' U' rc then kx P G (eB P G k) ops n [] l t' U' else .err 86)
  | none=>.err 87)=_
 grind [jx,mh]
end
theorem L2 {f:Nat} {fn:Func} {c:Code} {args:List V} {U:I} {R:V->I->Prop} {t:PT V} (z:G.II f args U=none) (A:G.IL f args=none) (u:G.stop f args U=none) (C:G.fk f=false)
  (hf:P.funcs[f]?=some fn) (hb:fn.body=some c) (E:r6 fn.ntmps args=some t)
  (h:Ev P G c fn.ntmps t U fun e t' U'=>(e= .normal∨e= .ret)/\∃v,fg P fn t' U'=some v/\R v U'):bm P G f args U R:=by
 obtain⟨K,e,t',U',h1,he,v,h2,F⟩:=h;refine⟨K,v,U',fun k hk=>?_,F⟩;unfold mN;rw[z];dsimp only;rw[A];dsimp only;rw[u];dsimp only;rw[C];simp only[cond_false];unfold lG;rw[hf];dsimp only;rw[hb,E];dsimp only;rw[h1 k hk];rcases he with rfl | rfl<;>
 ·dsimp only;unfold y7;rw[show xK P G (eB P G k) [] .ret U'=some (.ret,U') from Z]
  simp_all
theorem Jw {f:Nat} {args:List V} {U:I} {R:V->I->Prop} {v:V} (aa:G.II f args U=none) (ab:G.IL f args=some v) (h1:eO args=true) (h2:nC v=true) (h3:nY G.gl U G.laid=true) (h:R v U):bm P G f args U R:=by
 refine⟨0,v,U,fun k _=>?_,h⟩
 grind [mN]
end
def qY (P:Program):List Field->Nat->Option Nat
  | [],off=>some off
  | f::r,off=>if f.offset=off then qY P r (off+P.cellsOf f.type) else none
def dY {H_:Type} (P:Program) (U:I):Nat->TypeId->DataW H_->List V->Prop
  | 0,_,_,_=>False
  | fuel+1,t,d,vs=>
    match P.underlying t,d with
    | some .bool,.lit (.bool b)=>vs= [.bool b]
    | some (.int k),.lit (.int k' n)=>k'=k/\(Lit.int k n).wf=true/\vs= [.int k n]
    | some .string,.lit (.string s)=>s.length<=maxLen/\vs= [.str<|s.map UInt8.toNat]
    | some (.slice _),.nil=>vs= [.au]
    | some (.slice e),.slice elems spare=>1<=P.cellsOf e->∃(b:Nat) (c:qf) (cells:List V) (e':Nat),vs= [.slice b 0 elems.length c]/\elems.length<=maxLen/\U.m.get b=some (.row cells e' true)/\
        (c= .known (elems.length+spare.length)∨c= .upto (P.cellsOf e))/\cells.length=elems.length*P.cellsOf e/\
        ∀(i:Nat) (x:DataW H_),elems[i]?=some x->dY P U fuel e x ((cells.drop (i*P.cellsOf e)).take<|P.cellsOf e)
    | some (.struct fs),.agg parts=>qY P fs.toList 0=some (P.cellsOf t)->parts.length=fs.size/\vs.length=P.cellsOf t/\
        ∀(i:Nat) (f:Field) (x:DataW H_),fs[i]?=some f->parts[i]?=some x->dY P U fuel f.type x ((vs.drop f.offset).take<|P.cellsOf f.type)
    | some (.array n e),.agg parts=>P.cellsOf t=n*P.cellsOf e->parts.length=n/\vs.length=P.cellsOf t/\
        ∀(i:Nat) (x:DataW H_),parts[i]?=some x->dY P U fuel e x ((vs.drop (i*P.cellsOf e)).take<|P.cellsOf e)
    | _,_=>True
theorem dY.mono {H_:Type} {P:Program} {U U':I} (he:∀(b:Pos) (o:cM),U.m.get b=some o->U'.m.get b=some o):∀(fuel:Nat) (t:TypeId) (d:DataW H_) (vs:List V),dY P U fuel t d vs->dY P U' fuel t d vs
  | 0,_,_,_,h=>h
  | fuel+1,t,d,vs,h=>by
    unfold dY at h⊢;split at h
    · exact h
    · exact h
    · exact h
    · exact h
    · intro h1
      obtain⟨b,c,cells,e',u,k2,z,A,C,E⟩:=h h1;exact⟨b,c,cells,e',u,k2,he _ _ z,A,C,fun i x hx=>dY.mono he fuel _ _ _ (E i x hx)⟩
    · intro h1
      obtain⟨u,k2,z⟩:=h h1;exact⟨u,k2,fun i f x hf hx=>dY.mono he fuel _ _ _ (z i f x hf hx)⟩
    · intro h1
      obtain⟨u,k2,z⟩:=h h1;exact⟨u,k2,fun i x hx=>dY.mono he fuel _ _ _ (z i x hx)⟩
    · trivial
theorem dt.flatten {S:dg}:∀{vss:List (List V)} {css:List (List Value)},vss.length=css.length->(∀(i:Nat) (vs:List V) (cs:List Value),vss[i]?=some vs->css[i]?=some cs->dt S vs cs)->dt S vss.flatten css.flatten
  | [],[],_,_=>dt.nil
  | [],_::_,h,_=>by simp at h
  | _::_,[],h,_=>by simp at h
  | vs::vss,cs::css,h,u=>by
    rw[List.flatten_cons,List.flatten_cons];exact(u 0 vs cs Z Z).append (dt.flatten (by simpa using h) fun i a b z hb=>u (i+1) a b (by simpa using z) (by simpa using hb))
theorem nU {α:Type} {m:Nat}:∀{l:List (List α)} {i:Nat} {x:List α},(∀y∈l,y.length=m)->l[i]?=some x->(l.flatten.drop (i*m)).take m=x
  | [],i,x,_,h=>by simp at h
  | y::l,0,x,hm,h=>by
    simp at h;subst h;have hy:=hm y (by simp);simp[<-hy]
  | y::l,i+1,x,hm,h=>by
    have hy:=hm y (by simp);simp only[List.getElem?_cons_succ] at h;rw[List.flatten_cons,show(i+1)*m=y.length+i*m by rw[hy,Nat.succ_mul,Nat.add_comm],List.drop_append,List.drop_eq_nil_of_le B,List.nil_append,Nat.add_sub_cancel_left];exact nU (fun z u=>hm z (by simp[u])) h
theorem qw {α:Type} {m:Nat}:∀{l:List (List α)},(∀y∈l,y.length=m)->l.flatten.length=l.length*m
  | [],_=>by simp
  | y::l,hm=>by
    rw[List.flatten_cons,lA_,hm y (by simp),qw fun z u=>hm z (by simp[u]),List.length_cons,Nat.succ_mul,Nat.add_comm]
theorem oh {α:Type} {P:Program}:∀{fs:List Field} {off fin:Nat} {cs:List α},qY P fs off=some fin->fin<=cs.length->(fs.map fun f=>(cs.drop f.offset).take (P.cellsOf f.type)).flatten=(cs.drop off).take (fin-off)/\off<=fin
  | [],off,fin,cs,h,_=>by simp only[qY,oJ_] at h;subst h;simp
  | f::fs,off,fin,cs,h,hl=>by
    simp only[qY] at h;split at h
    · rename_i u
      obtain⟨h1,h2⟩:=oh h hl;refine⟨?_,by omega⟩;rw[List.map_cons,List.flatten_cons,h1,u];rw[show fin-off=P.cellsOf f.type+(fin-(off+P.cellsOf f.type)) by omega,List.take_add,List.drop_drop]
    · cases h
theorem vP {α:Type} {P:Program}:∀{fs:List Field} {vss:List (List α)} {off fin:Nat},qY P fs off=some fin->(∀(i:Nat) (f:Field) (vs:List α),fs[i]?=some f->vss[i]?=some vs->vs.length=P.cellsOf f.type)->vss.length=fs.length->
    ∀{i:Nat} {f:Field} {vs:List α},fs[i]?=some f->vss[i]?=some vs->off<=f.offset/\(vss.flatten.drop (f.offset-off)).take (P.cellsOf f.type)=vs
  | [],vss,off,fin,h,hl,u,i,f,vs,hf,hv=>by simp at hf
  | g::fs,[],off,fin,h,hl,u,i,f,vs,hf,hv=>by simp at hv
  | g::fs,w::vss,off,fin,h,hl,u,i,f,vs,hf,hv=>by
    simp only[qY] at h;split at h
    · rename_i ho
      have hw:=hl 0 g w Z Z;cases i with
      | zero=>
        simp_all
      | succ i=>
        simp only[List.getElem?_cons_succ] at hf hv;obtain⟨h1,h2⟩:=vP h (fun i f vs a b=>hl (i+1) f vs (by simpa using a) (by simpa using b)) (by simpa using u) hf hv
        grind [List.drop_append,List.drop_eq_nil_of_le]
    · cases h
def lB (U:I):Prop:=∀b o,U.m.get b=some o->o.ro=true
structure DY (S:dg) (U:I) (S':dg) (U':I):Prop where
  le:S.le S'
  get:∀(b:Pos) (o:cM),U.m.get b=some o->U'.m.get b=some o
theorem DY.refl (S:dg) (U:I):DY S U S U:=⟨dg.le_refl S,fun _ _ h=>h⟩
theorem DY.trans {S u z:dg} {U A U2:I} (h:DY S U u A) (h':DY u A z U2):DY S U z U2:=⟨dg.le_trans h.le h'.le,fun b o hb=>h'.get b o (h.get b o hb)⟩
theorem Inv.Nq {S:dg} {U:I} {w:World} (hi:Inv S U w) (M:lB U) {l:Loc} {o:cM} {x:Obj} (hx:w.heap[l.dJ]?=some x) (Q:iN S l o x) (aa:o.ro=true):
    Inv (S.with U.next l) (U.alloc o) w/\lB (U.alloc o)/\DY S U (S.with U.next l) (U.alloc o):=by
  have hle:=hi.wy l;have K:l.dJ<w.heap.size:=(aS_.1 hx).1;have C:∀b l',b≠U.next->(S.with U.next l) b=some l'->S b=some l':=fun b l' hb h=>by rwa[dg.dU S l hb] at h
  have A:∀b,b≠U.next->(U.alloc o).m.get b=U.m.get b:=fun b hb=>PT.du _ _ _ _ hb
  have E:(U.alloc o).m.get U.next=some o:=PT.dz _ _ _
  have z:lB (U.alloc o):=fun b q hb=>by
    by_cases e:b=U.next
    · simp_all
    · rw[A b e] at hb;exact M b q hb
  refine⟨⟨⟨fun b hb=>?_,fun b l' hb=>?_,fun b o' l' hb F=>?_,fun b b' o₁ o₂ l₁ l₂ h1 G _ _ _ _=>⟨z b o₁ h1,z b' o₂ G⟩⟩,hi.sk.size,hi.sk.same,fun r _ ⟨b,o,l,h1,G,_,_⟩=>by rw[z b o h1] at G;cases G⟩,z,hle,fun b q hb=>?_⟩
  · have ab:U.next.num+1<=b.num:=by simpa [I.alloc,Pos.jv] using hb
    have u:b≠U.next:=fun e=>by subst e;omega
    rw[dg.dU S l u,A b u];exact hi.fresh b B
  · by_cases u:b=U.next
    · subst u;rw[dg.da] at hb;cases hb;exact K
    · exact hi.dJ b l'<|C b l' u hb
  · by_cases u:b=U.next
    · subst u
      rw[dg.da] at F;rw[E] at hb;cases hb;cases F;exact⟨x,hx,Q.mono hle⟩
    · rw[A b u] at hb
      obtain⟨y,hy,L⟩:=hi.obj b o' l' hb (C b l' u F);exact⟨y,hy,L.mono hle⟩
  · have u:b≠U.next:=fun e=>by subst e;rw[(hi.fresh _<|nR_ _).2] at hb;cases hb
    simp_all
section
variable {H_:Type} {enc:TypeId×Value->H_} {P:Program} {w:World}
def IN (enc:TypeId×Value->H_) (P:Program) (w:World) (fuel:Nat) (t:TypeId) (cs:List Value) (d:DataW H_):Prop:=
  ∀(S:dg) (U:I),Inv S U w->lB U->∃(S':dg) (U':I) (vs:List V),Inv S' U' w/\lB U'/\DY S U S' U'/\dY P U' fuel t d vs/\dt S' vs cs
theorem O0 {S:dg}:∀(cs:List Value),dt S (cs.map fun _=>V.any) cs
  | []=>dt.nil
  | _::cs=>dt.cons (by simp only[VR]) (O0 cs)
theorem rB {fuel:Nat} (ih:∀t cs d p,DataW.trod enc P w 0 (fun _=>true) true fuel t cs=some (d,p)->IN enc P w fuel t cs d):
    ∀(l:List (TypeId×List Value)) (xs:List (DataW H_×List MemPlace)),(l.mapM fun q=>DataW.trod enc P w 0 (fun _=>true) true fuel q.1 q.2)=some xs->∀(S:dg) (U:I),Inv S U w->lB U->
      ∃(S':dg) (U':I) (vss:List (List V)),Inv S' U' w/\lB U'/\DY S U S' U'/\vss.length=l.length/\xs.length=l.length/\∀(i:Nat) (q:TypeId×List Value) (x:DataW H_×List MemPlace) (vs:List V),l[i]?=some q->xs[i]?=some x->vss[i]?=some vs->dY P U' fuel q.1 x.1 vs/\dt S' vs q.2
  | [],xs,h,S,U,hi,u=>by
    simp at h;subst h;exact⟨S,U,[],hi,u,DY.refl _ _,Z,Z,fun i q x vs hq=>by simp at hq⟩
  | q::l,xs,h,S,U,hi,u=>by
    simp only[List.mapM_cons,Option.bind_eq_bind,Option.bind_eq_some_iff,Option.pure_def,oJ_] at h;obtain⟨⟨d,p⟩,h1,r,z,rfl⟩:=h;obtain⟨A,C,vs,E,F,l1,G,K⟩:=ih _ _ _ _ h1 S U hi u;obtain⟨L,M,vss,Q,R,l2,n1,W,hh⟩:=rB ih l r z A C E F;refine⟨L,M,vs::vss,Q,R,l1.trans l2,by simp[n1],by simp[W],fun i q' x vs' hq hx hv=>?_⟩;cases i with
    | zero=>
      simp at hq hx hv;subst hq;subst hx;subst hv;exact⟨dY.mono l2.get _ _ _ _ G,dt.mono l2.le _ _ K⟩
    | succ i=>grind
theorem m7 {α β:Type} {f:α->Option β}:∀{l:List α} {ys:List β},l.mapM f=some ys->ys.length=l.length/\∀(i:Nat) (y:β),ys[i]?=some y->∃x,l[i]?=some x/\f x=some y
  | [],ys,h=>by simp_all
  | x::l,ys,h=>by
    simp only[List.mapM_cons,Option.bind_eq_bind,Option.bind_eq_some_iff,Option.pure_def,oJ_] at h;obtain⟨y,h1,r,u,rfl⟩:=h;obtain⟨k1,k2⟩:=m7 u
    grind
theorem uD {α β γ:Type} {f:α->Option β} {g:β->Option γ}:∀{l:List α} {xs:List γ},(l.mapM fun a=>(f a).bind g)=some xs->∃ys,l.mapM f=some ys/\ys.mapM g=some xs
  | [],xs,h=>by simp_all
  | a::l,xs,h=>by
    simp only[List.mapM_cons,Option.bind_eq_bind,Option.bind_eq_some_iff,Option.pure_def,oJ_] at h;obtain⟨x,⟨b,h1,h2⟩,r,u,rfl⟩:=h;obtain⟨ys,k1,k2⟩:=uD u
    simp_all
theorem mapM_map {α β γ:Type} {f:α->β} {g:β->Option γ}:∀(l:List α),(l.map f).mapM g=l.mapM fun a=>g (f a)
  | []=>rfl
  | a::l=>by simp only[List.map_cons,List.mapM_cons,mapM_map l]
theorem chunks_flatten {α:Type} {m:Nat} (L:List α):∀(n:Nat),((List.range n).map fun k=>(L.drop (k*m)).take m).flatten=L.take (n*m)
  | 0=>by simp
  | n+1=>by
    rw[List.range_succ,List.map_append,List.flatten_append,chunks_flatten L n];simp only[List.map_cons,List.map_nil,List.flatten_cons,List.flatten_nil,List.append_nil];rw[Nat.succ_mul,List.take_add]
theorem wO {a:Addr} {n:Nat} {cs:List Value} (h:w.cells? 0 a n=some cs) (hn:1<=n):∃(c:Array Value) (e:TypeId) (fr:Nat×Nat),w.heap[a.block]?=some (Obj.cells c e fr)/\a.spot=none/\a.off+n<=c.size/\cs=(c.toList.drop a.off).take n:=by
  unfold World.cells? at h;rw[if_pos<|Nat.zero_le _] at h;obtain⟨C,k2⟩:=m7 h;have C:cs.length=n:=by simpa using C
  have h0:∃(c:Array Value) (e:TypeId) (fr:Nat×Nat),w.heap[a.block]?=some (Obj.cells c e fr)/\a.spot=none:=by
    have u:0<cs.length:=by omega
    obtain⟨x,hx,hc⟩:=k2 0 cs[0] (gC u)
    have:x=0:=by
      grind
    subst this;have E:a.add 0=a:=by simp[Addr.add]
    rw[E] at hc;unfold World.cell? at hc;split at hc
    · simp_all
    · cases hc
  obtain⟨c,e,fr,F,G⟩:=h0
  have z:∀i y,cs[i]?=some y->c[a.off+i]?=some y:=fun i y hy=>by
    grind [Addr.add_eq,cell?_of_heap]
  have A:a.off+n<=c.size:=by
    have u:n-1<cs.length:=by omega
    have:=z (n-1) cs[n-1] (gC u)
    grind
  refine⟨c,e,fr,F,G,A,?_⟩;apply List.ext_getElem?
  grind
theorem DG {P:Program}:∀{fs:List Field} {off fin:Nat},qY P fs off=some fin->∀f∈fs,f.offset+P.cellsOf f.type<=fin
  | [],off,fin,h,f,hf=>by cases hf
  | g::fs,off,fin,h,f,hf=>by
    simp only[qY] at h;split at h
    · rename_i ho
      rcases mQ_.1 hf with rfl | hf
      · have:=(oh (P:=P) (cs:=List.replicate fin ()) h (by simp)).2
        omega
      · exact DG h f hf
    · cases h
theorem JU (hw:∃(r:Nat) (c:Array Value) (e:TypeId) (fr:Nat×Nat),w.heap[r]?=some (Obj.cells c e fr)) {fuel:Nat} (ih:∀t cs d p,DataW.trod enc P w 0 (fun _=>true) true fuel t cs=some (d,p)->IN enc P w fuel t cs d) {t e:TypeId} {a:Addr} {len cap:Nat} {d:DataW H_} {p:List MemPlace} (hu:P.underlying t=some (.slice e))
    (h:(if 0<=a.block/\len<=cap/\cap<=maxLen then
        ((List.range len).mapM fun i=>(w.cells? 0 (a.add (i*P.cellsOf e))<|P.cellsOf e).bind (DataW.trod enc P w 0 (fun _=>true) true fuel e)).bind fun elems=>
          (if(fun _=>true) a.block=true then(List.range (cap-len)).mapM fun j=>(w.cells? 0 (a.add ((len+j)*P.cellsOf e))<|P.cellsOf e).bind (DataW.trod enc P w 0 (fun _=>true) true fuel e) else some []).map fun rest=>
            (DataW.slice (elems.map (·.1))<|rest.map (·.1),MemPlace.row a ((elems.length+rest.length)*P.cellsOf e)++(elems++rest).flatMap (·.2))
      else none)=some (d,p)) {S:dg} {U:I} (hi:Inv S U w) (hr:lB U):
    ∃(S':dg) (U':I) (vs:List V),Inv S' U' w/\lB U'/\DY S U S' U'/\dY P U' (fuel+1) t d vs/\dt S' vs [Value.slice (some a) len cap]:=by
  split at h
  · rename_i hc
    obtain⟨_,a5,a6⟩:=hc;obtain⟨elems,hE,h⟩:=Option.bind_eq_some_iff.1 h;obtain⟨rest,hR,h⟩:=oM_.1 h;rw[if_pos Z] at hR;have hd:d= .slice (elems.map (·.1)) (rest.map (·.1)):=by have:=congrArg Prod.fst h;simpa using this.symm
    subst hd;have z:elems.length=len:=by have:=(m7 hE).1;simpa using this
    have aq:rest.length=cap-len:=by have:=(m7 hR).1;simpa using this
    by_cases M:1<=P.cellsOf e
    · obtain⟨css,aK,hex⟩:=uD hE
      obtain⟨kcs,L⟩:=m7 aK;have kcs:css.length=len:=by simpa using kcs
      have X:∀k,(a.add k).block=a.block/\(a.add k).off=a.off+k:=fun k=>by
        unfold Addr.add;split
        · rename_i h0;subst h0;exact⟨Z,Z⟩
        · exact⟨Z,Z⟩
      have E:a.add 0=a:=by simp[Addr.add]
      by_cases h0:len=0/\cap=0
      · obtain⟨rfl,rfl⟩:=h0
        obtain⟨r,c,e',fr,hh⟩:=hw;have F:iN S ⟨r,0,c.size⟩ (.row [] e' true) (.cells c e' fr):=⟨c,fr,Z,by simp,by simp,fun i v hv=>by simp at hv,fun h=>by cases h⟩;obtain⟨i1,r1,l1⟩:=hi.Nq hr hh F Z;refine⟨_,_,[.slice U.next 0 0 (.upto<|P.cellsOf e)],i1,r1,l1,?_,dt.cons ?_ dt.nil⟩
        · unfold dY
          rw[hu];dsimp only;intro _;have a0:elems= []:=eN_ z;subst a0;exact⟨U.next,_,[],e',Z,by simp,PT.dz _ _ _,.inr Z,by simp,fun i x hx=>by simp at hx⟩
        · simp only[VR]
          refine⟨_,dg.da _ _ _,.inr ?_⟩;simp
      · have aa:∃(c:Array Value) (e':TypeId) (fr:Nat×Nat),w.heap[a.block]?=some (Obj.cells c e' fr)/\a.spot=none/\a.off<=c.size:=by
          have go:∀cs:List Value,w.cells? 0 a (P.cellsOf e)=some cs->∃(c:Array Value) (e':TypeId) (fr:Nat×Nat),w.heap[a.block]?=some (Obj.cells c e' fr)/\a.spot=none/\a.off<=c.size:=fun cs hk=>by
            obtain⟨c,e',fr,h1,h2,h3,_⟩:=wO hk M;exact⟨c,e',fr,h1,h2,by omega⟩
          by_cases hl:len=0
          · subst hl
            obtain⟨dss,a1,_⟩:=uD hR;obtain⟨k1,k2⟩:=m7 a1;have k1:dss.length=cap-0:=by simpa using k1
            have u:0<dss.length:=by omega
            obtain⟨x,G,hx⟩:=k2 0 dss[0] (gC u);have:x=0:=by rw[List.getElem?_range B] at G;exact(Option.some.inj G).symm
            subst this;rw[nA_,Nat.zero_mul,E] at hx;exact go _ hx
          · have u:0<css.length:=by omega
            obtain⟨x,G,hx⟩:=L 0 css[0] (gC u);have:x=0:=by rw[List.getElem?_range B] at G;exact(Option.some.inj G).symm
            subst this;rw[Nat.zero_mul,E] at hx;exact go _ hx
        obtain⟨c,e',fr,hh,K,ar⟩:=aa
        have Q:∀(i:Nat) (y:List Value),css[i]?=some y->a.off+(i+1)*P.cellsOf e<=c.size/\y=((c.toList.drop a.off).drop (i*P.cellsOf e)).take (P.cellsOf e):=fun i y hy=>by
          obtain⟨x,hx,a2⟩:=L i y hy;have C:i<len:=by rw[<-kcs];exact(gA.1 hy).1
          have:x=i:=by rw[List.getElem?_range C] at hx;exact(Option.some.inj hx).symm
          subst this;obtain⟨c2,e2,a7,h1,h2,h3,h4⟩:=wO a2 M;obtain⟨q1,q3⟩:=X (x*P.cellsOf e);rw[q1,hh] at h1;cases h1;rw[q3] at h3 h4;exact⟨by rw[Nat.succ_mul];omega,by rw[h4,List.drop_drop]⟩
        have a3:a.off+len*P.cellsOf e<=c.size:=by
          by_cases hl:len=0
          · subst hl;omega
          · have u:len-1<css.length:=by omega
            have:=(Q (len-1) css[len-1]<|gC u).1;rwa[show len-1+1=len by omega] at this
        have ac:∀(i:Nat) (y:List Value),css[i]?=some y->y.length=P.cellsOf e:=fun i y hy=>by
          obtain⟨k1,k2⟩:=Q i y hy;rw[k2,lT_,lD_,lD_,Array.length_toList];rw[Nat.succ_mul] at k1;omega
        have R:css=(List.range len).map fun k=>((c.toList.drop a.off).drop (k*P.cellsOf e)).take (P.cellsOf e):=by
          apply List.ext_getElem?;intro i;rw[gM_]
          by_cases C:i<len
          · rw[List.getElem?_range C]
            have u:i<css.length:=by omega
            rw[gC u];exact congrArg some (Q i css[i]<|gC u).2
          · rw[gN_ B,gN_ (by simp;omega)];rfl
        obtain⟨S1,U1,vss,i1,r1,l1,n1,n2,W⟩:=rB ih (css.map fun cs=>(e,cs)) elems (by rw[mapM_map];exact hex) S U hi hr;have n1:vss.length=css.length:=by simpa using n1
        have hV:dt S1 vss.flatten css.flatten:=dt.flatten n1 fun i vs cs hv ae=>by
          have u:i<elems.length:=by rw[z,<-kcs];exact(gA.1 ae).1
          exact(W i (e,cs) elems[i] vs (by rw[gM_,ae];rfl) (gC u) hv).2
        have am:∀vs∈vss,vs.length=P.cellsOf e:=fun vs hv=>by
          obtain⟨i,C,rfl⟩:=List.getElem_of_mem hv;have u:i<css.length:=by omega
          have A:i<elems.length:=by omega
          have:=(W i (e,css[i]) elems[i] vss[i] (by rw[gM_,gC u];rfl) (gC A)<|gC C).2.length;rw[<-this];exact ac i _<|gC u
        have ap:vss.flatten.length=len*P.cellsOf e:=by rw[qw am,n1,kcs]
        rw[R,chunks_flatten] at hV
        have F:iN S1 ⟨a.block,a.off,c.size-a.off⟩ (.row vss.flatten e' true) (.cells c e' fr):=by
          refine⟨c,fr,Z,by show c.size=a.off+(c.size-a.off);omega,by rw[ap];show _<=c.size-a.off;omega,fun i v hv=>?_,fun h=>by cases h⟩;obtain⟨y,hy,a4⟩:=hV.get hv;rw[List.getElem?_take] at hy;split at hy
          · rw[List.getElem?_drop,aT_] at hy
            exact⟨y,hy,a4⟩
          · cases hy
        obtain⟨i2,r2,l2⟩:=i1.Nq r1 hh F Z;refine⟨_,_,[.slice U1.next 0 len (.known cap)],i2,r2,l1.trans l2,?_,dt.cons ?_ dt.nil⟩
        · unfold dY
          rw[hu];dsimp only;intro _;refine⟨U1.next,_,vss.flatten,e',by rw[lM_,z],by rw[lM_,z];omega,PT.dz _ _ _,.inl (by rw[lM_,lM_,z,aq];congr 1;omega),by rw[ap,lM_,z],fun i x hx=>?_⟩;rw[gM_] at hx;cases hy:elems[i]? with
          | none=>rw[hy] at hx;cases hx
          | some y=>
            rw[hy] at hx;cases hx;have C:i<len:=by rw[<-z];exact(gA.1 hy).1
            have u:i<css.length:=by omega
            have A:i<vss.length:=by omega
            rw[nU am<|gC A];exact dY.mono l2.get _ _ _ _ (W i (e,css[i]) y vss[i] (by rw[gM_,gC u];rfl) hy<|gC A).1
        · simp only[VR]
          refine⟨_,dg.da _ _ _,?_⟩;obtain⟨ab,ao,as⟩:=a;dsimp only at K⊢;subst K;rfl
    · refine⟨S,U,[.any],hi,hr,DY.refl _ _,?_,dt.cons (by simp only[VR]) dt.nil⟩
      unfold dY;rw[hu];exact fun h'=>absurd h' M
  · cases h
theorem lay (hw:∃(r:Nat) (c:Array Value) (e:TypeId) (fr:Nat×Nat),w.heap[r]?=some (Obj.cells c e fr)):∀(fuel:Nat) (t:TypeId) (cs:List Value) (d:DataW H_) (p:List MemPlace),DataW.trod enc P w 0 (fun _=>true) true fuel t cs=some (d,p)->IN enc P w fuel t cs d
  | 0,t,cs,d,p,h=>by simp[DataW.trod] at h
  | fuel+1,t,cs,d,p,h=>by
    intro S U hi R;have ih:=lay hw fuel
    have other:(∀vs:List V,dY P U (fuel+1) t d vs)->∃(S':dg) (U':I) (vs:List V),Inv S' U' w/\lB U'/\DY S U S' U'/\dY P U' (fuel+1) t d vs/\dt S' vs cs:=fun K=>
      ⟨S,U,_,hi,R,DY.refl _ _,K _,O0 cs⟩
    have one:∀{v:V} {x:Value},cs= [x]->(∀S:dg,VR S v x)->dY P U (fuel+1) t d [v]->∃(S':dg) (U':I) (vs:List V),Inv S' U' w/\lB U'/\DY S U S' U'/\dY P U' (fuel+1) t d vs/\dt S' vs cs:=fun {v x} hc hv K=>by
      subst hc;exact⟨S,U,[v],hi,R,DY.refl _ _,K,dt.cons (hv S) dt.nil⟩
    cases hu:P.underlying t with
    | none=>exact other fun vs=>by unfold dY;rw[hu];trivial
    | some u=>
      unfold DataW.trod at h;rw[hu] at h;cases u with
      | bool=>
        split at h<;>first | (rename_i he;cases he;done) | skip
        all_goals first
          | (rename_i b he
             cases h;exact one (v:=.bool b) Z (fun S=>by simp only[VR]) (by unfold dY;rw[hu]))
          | cases h
      | int k=>
        split at h<;>first | (rename_i he;cases he;done) | skip
        all_goals first
          | (rename_i k1 k2 n he
             cases he;split at h
             · rename_i hk
               obtain⟨aa,ab⟩:=hk;subst aa;cases h;exact one (v:=.int k2 n) Z (fun S=>by simp only[VR]) (by unfold dY;rw[hu];exact⟨Z,ab,Z⟩)
             · cases h)
          | cases h
      | string=>
        split at h<;>first | (rename_i he;cases he;done) | skip
        all_goals first
          | (rename_i s he
             split at h
             · rename_i hk
               cases h;exact one (v:=.str<|s.data.toList.map UInt8.toNat) Z (fun S=>by simp only[VR];exact⟨s,Z,Z⟩) (by unfold dY;rw[hu];exact⟨by simpa using hk,Z⟩)
             · cases h)
          | cases h
      | struct fs=>
        dsimp only at h;split at h
        · rename_i hlen
          obtain⟨xs,L,hx⟩:=oM_.1 h;have K:d= .agg (xs.map (·.1)):=by have:=congrArg Prod.fst hx;simpa using this.symm
          subst K
          by_cases F:qY P fs.toList 0=some (P.cellsOf t)
          · obtain⟨E,W,vss,i1,r1,l1,n1,G,hh⟩:=rB ih (fs.toList.map fun f=>(f.type,(cs.drop f.offset).take<|P.cellsOf f.type)) xs (by rw[mapM_map];exact L) S U hi R
            have hflat:=(oh (cs:=cs) F B).1;have hle:=DG F;have n1:vss.length=fs.toList.length:=by simpa using n1
            have G:xs.length=fs.toList.length:=by simpa using G
            have C:∀(i:Nat) (f:Field) (vs:List V),fs.toList[i]?=some f->vss[i]?=some vs->∃x,xs[i]?=some x/\dY P W fuel f.type x.1 vs/\dt E vs ((cs.drop f.offset).take<|P.cellsOf f.type):=fun i f vs hf hv=>by
              have z:i<xs.length:=by rw[G];exact(gA.1 hf).1
              obtain⟨k1,k2⟩:=hh i (f.type,(cs.drop f.offset).take<|P.cellsOf f.type) xs[i] vs (by rw[gM_,hf];rfl) (gC z) hv;exact⟨xs[i],gC z,k1,k2⟩
            have M:∀(i:Nat) (f:Field) (vs:List V),fs.toList[i]?=some f->vss[i]?=some vs->vs.length=P.cellsOf f.type:=fun i f vs hf hv=>by
              obtain⟨x,_,_,k⟩:=C i f vs hf hv;have h1:=k.length;have h2:=hle f (gB_ hf);rw[lT_,lD_] at h1;omega
            have X:dt E vss.flatten cs:=by
              have:=dt.flatten (S:=E) (vss:=vss) (css:=fs.toList.map fun f=>(cs.drop f.offset).take (P.cellsOf f.type)) (by simpa using n1) (fun i vs c hv hc=>by
                rw[gM_] at hc;cases hf:fs.toList[i]? with
                | none=>rw[hf] at hc;cases hc
                | some f=>
                  rw[hf] at hc;cases hc;obtain⟨x,_,_,k⟩:=C i f vs hf hv;exact k)
              rw[hflat,List.drop_zero,Nat.sub_zero,<-hlen,List.take_length] at this;exact this
            refine⟨E,W,vss.flatten,i1,r1,l1,?_,X⟩;unfold dY;rw[hu];dsimp only;intro _;refine⟨by simpa using G,by rw[<-hlen];exact X.length.symm,fun i f x hf hx=>?_⟩;have Q:fs.toList[i]?=some f:=by rw[aT_];exact hf
            have z:i<vss.length:=by rw[n1];exact(gA.1 Q).1
            obtain⟨_,hp⟩:=vP F M n1 Q (gC z);obtain⟨y,hy,k,_⟩:=C i f vss[i] Q (gC z);rw[gM_,hy] at hx;cases hx;rw[Nat.sub_zero] at hp;rw[hp];exact k
          · exact other fun vs=>by unfold dY;rw[hu];exact fun h'=>absurd h' F
        · cases h
      | array m e=>
        dsimp only at h;split at h
        · rename_i hlen
          obtain⟨xs,L,hx⟩:=oM_.1 h;have K:d= .agg (xs.map (·.1)):=by have:=congrArg Prod.fst hx;simpa using this.symm
          subst K
          by_cases F:P.cellsOf t=m*P.cellsOf e
          · obtain⟨E,W,vss,i1,r1,l1,n1,G,hh⟩:=rB ih ((List.range m).map fun i=>(e,(cs.drop (i*P.cellsOf e)).take<|P.cellsOf e)) xs (by rw[mapM_map];exact L) S U hi R
            have n1:vss.length=m:=by simpa using n1
            have G:xs.length=m:=by simpa using G
            have C:∀(i:Nat) (vs:List V),vss[i]?=some vs->∃x,xs[i]?=some x/\dY P W fuel e x.1 vs/\dt E vs ((cs.drop (i*P.cellsOf e)).take<|P.cellsOf e):=fun i vs hv=>by
              have A:i<m:=by rw[<-n1];exact(gA.1 hv).1
              have z:i<xs.length:=by omega
              obtain⟨k1,k2⟩:=hh i (e,(cs.drop (i*P.cellsOf e)).take<|P.cellsOf e) xs[i] vs (by rw[gM_,List.getElem?_range A];rfl) (gC z) hv;exact⟨xs[i],gC z,k1,k2⟩
            have M:∀vs∈vss,vs.length=P.cellsOf e:=fun vs hv=>by
              obtain⟨i,A,rfl⟩:=List.getElem_of_mem hv;obtain⟨x,_,_,k⟩:=C i _ (gC A);have h1:=k.length;rw[lT_,lD_,hlen,F] at h1;have:(i+1)*P.cellsOf e<=m*P.cellsOf e:=nM_ _ B;rw[Nat.succ_mul] at this;omega
            have X:dt E vss.flatten cs:=by
              have:=dt.flatten (S:=E) (vss:=vss) (css:=(List.range m).map fun i=>(cs.drop (i*P.cellsOf e)).take (P.cellsOf e)) (by simpa using n1) (fun i vs c hv hc=>by
                obtain⟨x,_,_,k⟩:=C i vs hv;have A:i<m:=by rw[<-n1];exact(gA.1 hv).1
                rw[gM_,List.getElem?_range A] at hc;cases hc;exact k)
              rw[chunks_flatten,<-F,<-hlen,List.take_length] at this;exact this
            refine⟨E,W,vss.flatten,i1,r1,l1,?_,X⟩;unfold dY;rw[hu];dsimp only;intro _;refine⟨by simpa using G,by rw[<-hlen];exact X.length.symm,fun i x hx=>?_⟩
            have A:i<vss.length:=by
              have:=(gA.1 hx).1;rw[lM_] at this;omega
            rw[nU M<|gC A];obtain⟨y,hy,k,_⟩:=C i vss[i] (gC A);rw[gM_,hy] at hx;cases hx;exact k
          · exact other fun vs=>by unfold dY;rw[hu];exact fun h'=>absurd h' F
        · cases h
      | slice e=>
        split at h<;>first | (rename_i he;cases he;done) | skip
        all_goals first
          | (rename_i he
             cases h;exact one (v:=.au) Z (fun S=>by simp only[VR]) (by unfold dY;rw[hu]))
          | (rename_i e' a len cap he
             cases he;exact JU hw ih hu h hi R)
          | cases h
      | _=>exact other fun vs=>by unfold dY;rw[hu];trivial
end
section
variable {P:Program} {G:Cx} {ev:Operand->Option V} {U:I}
def Ext (U U':I):Prop:=U.next<=U'.next/\∀(b:Nat) (o:cM),b<U.next->U.m.get b=some o->U'.m.get b=some o
theorem Ext.refl (U:I):Ext U U:=⟨nR_ _,fun _ _ _ h=>h⟩
theorem Ext.trans {U u U2:I} (h:Ext U u) (h':Ext u U2):Ext U U2:=⟨Nat.le_trans h.1 h'.1,fun b o hb z=>h'.2 b o (Nat.lt_of_lt_of_le hb h.1) (h.2 b o hb z)⟩
theorem za (U:I) (o:cM):(U.alloc o).m.get U.next=some o:=PT.dz _ _ _
theorem nV (U:I) (o:cM) {b:Nat} (h:b<U.next):(U.alloc o).m.get b=U.m.get b:=PT.du _ _ _ _ (Nat.ne_of_lt h)
theorem AW (U:I) (b:Nat) (o:cM):(U.setObj b o).m.get b=some o:=PT.dz _ _ _
theorem nW (U:I) {b b':Nat} (o:cM) (h:b'≠b):(U.setObj b o).m.get b'=U.m.get b':=PT.du _ _ _ _ h
theorem Ext.alloc (U:I) (o:cM):Ext U (U.alloc o):=⟨Nat.le_succ _,fun b o' hb h=>by rw[nV U o hb];exact h⟩
theorem Ext.set {U u:I} (h:Ext U u) {b:Nat} (hb:U.next<=b) (o:cM):Ext U (u.setObj b o):=⟨h.1,fun c o' hc z=>by rw[nW u o<|Nat.ne_of_lt<|Nat.lt_of_lt_of_le hc hb];exact h.2 c o' hc z⟩
theorem an {x:Operand} {v:V} (h:ev x=some v):dX P G ev U (.move x)= .val v U:=by
 show(match ev x with | some v=>HR.val v U | none=>_)=_;rw[h]
theorem aj {x:Operand} {v:V} (h:ev x=some v):dX P G ev U (.assign x)= .val v U:=by
 show(match ev x with | some v=>HR.val v U | none=>_)=_;rw[h]
theorem bf {op:Op} {v:V} (hk:kindOf P op= .pure) (h:di P ev op=some v):dX P G ev U op= .val v U:=by
 unfold dX;simp_all
theorem BV {op:Op} {v:V} (hk:kindOf P op= .read) (h:hJ P ev U op=some v):dX P G ev U op= .val v U:=by
 unfold dX;simp_all
theorem uc {op:Op} {ob:cM} {mk:Mk} (hk:kindOf P op= .alloc) (h:fO P ev op=some (ob,mk)):dX P G ev U op= .val (mk.of U.next) (U.alloc ob):=by
 unfold dX;simp_all
theorem lA {op:Op} {r:HR} (hk:kindOf P op= .kN) (h:gK P G.ov ev U op=r):dX P G ev U op=r:=by
 unfold dX;rw[hk];exact h
theorem ay {t:TypeId} {x:Operand} {b:Pos} {off:Nat} {cells:List V} {e:Nat} {ro:Bool} {v:V} (hx:ev x=some (.ptr b off)) (hb:U.m.get b=some (.row cells e ro)) (u:dO P t=some none) (hv:nth cells off=some v):dX P G ev U (.load t x)= .val v U:=by
 refine BV Z ?_;simp only[hJ,hx,hb,u,hv]
theorem aP {t:TypeId} {x:Operand} {b:Pos} {off n:Nat} {cells:List V} {e:Nat} {ro:Bool} {vs:List V} (hx:ev x=some (.ptr b off)) (hb:U.m.get b=some (.row cells e ro)) (z:dO P t=some (some n)) (hl:off+n<=cells.length) (hv:(cells.drop off).take n=vs):dX P G ev U (.load t x)= .val (.agg vs) U:=by
 refine BV Z ?_;have u:Nat.ble (off+n) (cY cells)=true:=by rw[nE_,bP];exact hl
 simp only[hJ,hx,hb,z,u,cond_true,dn,dM,hv]
theorem ax {s:TypeId} {x:Operand} {i:Nat} {b:Pos} {off k:Nat} (hx:ev x=some (.ptr b off)) (hk:ow P s i=some k):dX P G ev U (.fieldAddr s x i)= .val (.ptr b (off+k)) U:=by
 refine bf Z ?_;unfold ow at hk;simp only[di,hx];cases u:structOf P s with
 | none=>simp_all
 | some fs=>
  rw[u] at hk;dsimp only at hk⊢;cases hf:fs[i]? with
  | none=>simp_all
  | some f=>
   rw[hf] at hk;dsimp only at hk⊢;rw[qA] at hk
   grind
theorem Ng {t e:TypeId} {j:TypeInfo} {x i:Operand} {b:Pos} {off len n:Nat} {c:qf} {k:IntKind} (u:P.underlying t=some (.slice e)) (hj:P.info? e=some j) (hx:ev x=some (.slice b off len c)) (hi:ev i=some (.int k (.ofNat n))) (z:n<len):dX P G ev U (.indexAddr t x i)= .val (.ptr b (off+n*j.size)) U:=by
 refine bf Z ?_;have:Nat.ble (Nat.succ n) len=true:=by rw[nE_];exact z
 simp only[di,u,hx,hi,hj,this,cond_true]
theorem ss {c:Call} {t e:TypeId} {x:Operand} {b:Pos} {off len:Nat} {cp:qf} (hc:c.callee= .builtin .len) (u:c.argTypes[0]?=some t) (z:c.args.toList= [x]) (hu:P.underlying t=some (.slice e)) (hx:ev x=some (.slice b off len cp)):dX P G ev U (.call c)= .val (.int .i64 (.ofNat len)) U:=by
 refine bf (by simp[kindOf,hc,isMap,u,hu]) ?_;simp only[di,hc,u,z,hx,xL,hu,Option.map_some]
theorem az {o:BinOp} {t r:TypeId} {x y:Operand} {a b v:V} (hx:ev x=some a) (hy:ev y=some b) (h:vV P (zQ x || zQ y) o t a b=some v):dX P G ev U (.binOp o t x y r)= .val v U:=by
 refine bf Z ?_;simp only[di,hx,hy,h]
theorem aF {c a b:Operand} {q:Bool} {v:V} (hc:ev c=some (.bool q)) (h:(if q then ev a else ev b)=some v):dX P G ev U (.pick c a b)= .val v U:=by
 refine bf Z ?_;cases q with
 | true=>simp only[di,hc];exact h
 | false=>simp only[di,hc];exact h
theorem cT {t:TypeId} {x:Operand} {q:Bool} (hx:ev x=some (.bool q)):dX P G ev U (.unOp .not t x)= .val (.bool (!q)) U:=by
 refine bf Z ?_;simp only[di,hx];cases q<;>rfl
theorem cA {e:TypeId} {x:Operand} {v:V} {cs:List V} (hx:ev x=some v) (hc:cW v=some cs):dX P G ev U (.box e x)= .val (.ptr U.next 0) (U.alloc (.row cs e false)):=by
 exact uc (op:=.box e x) (mk:=.ptr) (ob:=.row cs e false) Z (by simp only[fO,hx,Option.bind_some,hc])
theorem cg {e:TypeId} {cs:List V} (u:(fJ P e).bind cW=some cs) (z:tN P e=false):dX P G ev U (.alloc e)= .val (.ptr U.next 0) (U.alloc (.row cs e false)):=by
 exact uc (op:=.alloc e) (mk:=.ptr) (ob:=.row cs e false) Z (by simp only[fO,u,z,cond_false])
theorem Nh {t:TypeId} {x y:Operand} {b:Pos} {off:Nat} {v:V} {cs cells:List V} {e:Nat} {j:TypeInfo} (hx:ev x=some (.ptr b off)) (hy:ev y=some v) (hc:cW v=some cs) (hb:U.m.get b=some (.row cells e false)) (hj:P.info? t=some j) (hl:cs.length=j.size) (hle:off+j.size<=cells.length) (aa:cF cs=true):
  dX P G ev U (.store t x y)= .skip (U.setObj b (.row (dI cs cells off) e false)):=by
 refine lA Z ?_
 have h1:(Nat.beq (cY cs) j.size && Nat.ble (off+j.size) (cY cells) && cF cs)=true:=by
  rw[bA_,bA_,Nat.beq_eq,nE_,bP,bP]
  simp_all
 simp only[gK,hx,hy,yG,hc,hb,hj,h1,cond_true]
theorem aQ {c:Call} {f:Operand} {g:Nat} {fi ca args:List V} (hc:c.callee= .value f) (hf:ev f=some (.func g fi ca)) (u:uw ev c.args.toList=some args) (z:AZ P g=true):dX P G ev U (.call c)= .enter g (fi++(args++ca)) U:=by
 refine lA (by simp[kindOf,hc]) ?_;simp only[gK,hc,hf,u,zq,z,cond_true,dV]
end
end Go.Ev
namespace Go.Ev
theorem G9 {α:Type} (n:Nat) (t:kQ α) (u:n<16):(yJ n).run t ((kB n).run t)=t:=by
 rcases H2 u with rfl | rfl | rfl | rfl | rfl | rfl | rfl | rfl | rfl | rfl | rfl | rfl | rfl | rfl | rfl | rfl<;>rfl
theorem Km {α:Type} (t:jZ α) (k:Nat) (hk:k<256):qN t k (kH t k)=t:=by
 unfold qN kH;rw[G9 (Nat.mod k 16) _<|Nat.mod_lt _ (by decide)];exact G9 (Nat.div k 16) _ (by show k/16<16;omega)
theorem PT.MJ {α:Type} {t:PT α} {k:Nat} {o:Option α} (h:t.get k=o) (hk:k<256):t.put o k=t:=by
 subst h;rw[PT.qy _ hk];cases t with
 | mk s m l=>rw[PT.tK _ _ _ _ hk];exact congrArg (fun s=>PT.mk s m l)<|Km s k hk
def Ko:PT V->List (Nat×V)->PT V
 | t,[]=>t
 | t,(k,v)::l=>Ko (t.put (some v) k) l
def NF (t:PT V):List (Nat×V)->Prop
 | []=>True
 | (k,v)::l=>t.get k=some v/\NF t l
theorem NF.Ko {t:PT V}:∀{l:List (Nat×V)},NF t l->(l.all fun x=>Nat.blt x.1 256)=true->Ko t l=t
 | [],_,_=>rfl
 | (k,v)::l,h,hl=>by
  rw[List.all_cons,bA_] at hl;have hk:k<256:=by have:=hl.1;exact Nat.le_of_ble_eq_true this
  show Go.Ev.Ko (t.put (some v) k) l=t;rw[PT.MJ h.1 hk];exact h.2.Ko hl.2
section
variable [Env] {P:Program} {G:Cx} {ev:Operand->Option V} {U:I}
theorem aU {id:Nat} {Q:Ex->PT V->I->Prop} {t:PT V} (h:Q .normal t U):iP id Q (.exit id) t U:=by
 show(if id=id then _ else _)
 simp_all
theorem mb {id j:Nat} {Q:Ex->PT V->I->Prop} {t:PT V} (hj:Nat.beq j id=false) (h:Q (.exit j) t U):iP id Q (.exit j) t U:=by
 show(if j=id then _ else _);rw[if_neg (fun e=>by simp_all)];exact h
theorem aX {n i:Nat} {b:Code} {Q:Ex->PT V->I->Prop} {t:PT V} (h:Q (.exit i) t U):cP P G n b Q (.exit i) t U:=h
theorem av {n:Nat} {b:Code} {Q:Ex->PT V->I->Prop} {t:PT V} (h:Q .ret t U):cP P G n b Q .ret t U:=h
theorem dD {t e:TypeId} {m:Nat} {x i:Operand} {b:Pos} {off len n:Nat} {c:qf} {k:IntKind} (u:P.underlying t=some (.slice e)) (hj:(P.info? e).map (·.size)=some m) (hx:ev x=some (.slice b off len c)) (hi:ev i=some (.int k (.ofNat n))) (z:n<len):dX P G ev U (.indexAddr t x i)= .val (.ptr b (off+n*m)) U:=by
 cases hq:P.info? e with
 | none=>simp_all
 | some j=>
  rw[hq] at hj;cases hj;exact Ng u hq hx hi z
theorem gX {t:TypeId} {m:Nat} {x y:Operand} {b:Pos} {off:Nat} {v:V} {cs cells:List V} {e:Nat} (hx:ev x=some (.ptr b off)) (hy:ev y=some v) (hc:cW v=some cs) (hb:U.m.get b=some (.row cells e false)) (hj:(P.info? t).map (·.size)=some m) (hl:cs.length=m) (hle:off+m<=cells.length) (aa:cF cs=true):
  dX P G ev U (.store t x y)= .skip (U.setObj b (.row (dI cs cells off) e false)):=by
 cases hq:P.info? t with
 | none=>simp_all
 | some j=>
  grind [Nh]
end
end Go.Ev
namespace Go.Ev
variable [Env]
abbrev H:=Nat->cM->Prop
def H.le (K K':H):Prop:=∀b o,K b o->K' b o
theorem H.le_refl (K:H):H.le K K:=fun _ _ h=>h
theorem H.le_trans {K K' K'':H} (h:H.le K K') (h':H.le K' K''):H.le K K'':=fun b o hb=>h' b o (h b o hb)
def H.add (K:H) (b:Nat) (o:cM):H:=fun b' o'=>K b' o'∨(b'=b/\o'=o)
theorem H.sO (K:H) (b:Nat) (o:cM):H.le K (K.add b o):=fun _ _ h=>.inl h
abbrev Own:=List (Nat×cM)
structure J (U:I) (K:H) (L:Own):Prop where
 kept:∀b o,K b o->b<U.next/\U.m.get b=some o/\∀e∈L,e.1≠b
 own:∀e∈L,e.1<U.next/\U.m.get e.1=some e.2
 ne:L.Pairwise fun a b=>a.1≠b.1
section
variable {U:I} {K:H} {L:Own}
theorem J.fx (h:J U K L) {b:Nat} {o:cM} (hk:K b o):U.m.get b=some o:=(h.kept b o hk).2.1
theorem J.get (h:J U K L) (k:Nat) {b:Nat} {o:cM} (hk:L[k]?=some (b,o)):U.m.get b=some o:=(h.own _<|gB_ hk).2
theorem J.alloc (h:J U K L) (o:cM):J (U.alloc o) K ((U.next,o)::L) where
 kept b o' hb:=by
  obtain⟨h1,u,h3⟩:=h.kept b o' hb;refine⟨Nat.lt_succ_of_lt h1,by rw[nV U o h1];exact u,fun e he=>?_⟩
  grind
 own e he:=by
  rcases mQ_.1 he with rfl | he
  ·exact⟨Nat.lt_succ_self _,za _ _⟩
  obtain⟨h1,u⟩:=h.own e he;exact⟨Nat.lt_succ_of_lt h1,by rw[nV U o h1];exact u⟩
 ne:=List.pairwise_cons.2 ⟨fun e he=>fun hh=>by have:=(h.own e he).1;omega,h.ne⟩
theorem J.pop {e:Nat×cM} (h:J U K (e::L)):J U K L where
 kept b o hb:=let ⟨h1,u,z⟩:=h.kept b o hb;⟨h1,u,fun e he=>z e (mC_ _ he)⟩
 own e he:=h.own e (mC_ _ he)
 ne:=(List.pairwise_cons.1 h.ne).2
theorem J.aR:∀{M:Own},J U K (M++L)->J U K L
 | [],h=>h
 | _::_,h=>J.aR h.pop
theorem J.perm {L':Own} (h:J U K L) (hp:L.Perm L'):J U K L' where
 kept b o hb:=let ⟨h1,z,A⟩:=h.kept b o hb;⟨h1,z,fun e he=>A e (hp.mem_iff.2 he)⟩
 own e he:=h.own e (hp.mem_iff.2 he)
 ne:=(hp.pairwise_iff (fun {a b} u=>fun e=>u e.symm)).1 h.ne
theorem J.iC {b:Nat} {o:cM} (h:J U K ((b,o)::L)):J U (K.add b o) L where
 kept b' o' hb:=by
  rcases hb with hb | ⟨rfl,rfl⟩
  ·exact h.pop.kept b' o' hb
  exact⟨(h.own _<|mS_ ..).1,(h.own _<|mS_ ..).2,fun e he u=>(List.pairwise_cons.1 h.ne).1 e he u.symm⟩
 own:=h.pop.own
 ne:=h.pop.ne
theorem J.pP {b:Nat} {o:cM} (h:J U K ((b,o)::L)) (o':cM):J (U.setObj b o') K ((b,o')::L) where
 kept b' o'' hb:=by
  obtain⟨h1,u,h3⟩:=h.kept b' o'' hb;refine⟨h1,by grind [nW,mS_],fun e he=>?_⟩;rcases mQ_.1 he with rfl | he
  ·simp_all
  grind
 own e he:=by
  rcases mQ_.1 he with rfl | he
  ·exact⟨(h.own _<|mS_ ..).1,AW _ _ _⟩
  obtain⟨h1,u⟩:=h.own e (mC_ _ he);exact⟨h1,by rw[nW U o' (fun z=>(List.pairwise_cons.1 h.ne).1 e he z.symm)];exact u⟩
 ne:=List.pairwise_cons.2 ⟨(List.pairwise_cons.1 h.ne).1,(List.pairwise_cons.1 h.ne).2⟩
theorem J.MO {b:Nat} {o:cM} {x:Nat×cM} (h:J U K (x::(b,o)::L)) (o':cM):J (U.setObj b o') K (x::(b,o')::L):=
 ((h.perm<|List.Perm.swap ..).pP o').perm (List.Perm.swap ..)
theorem Kl {α:Type} (x y z:α) (L:List α):(x::y::z::L).Perm (z::x::y::L):=
 (List.Perm.cons x<|List.Perm.swap z y L).trans (List.Perm.swap z x (y::L))
theorem J.QO {b:Nat} {o:cM} {x y:Nat×cM} (h:J U K (x::y::(b,o)::L)) (o':cM):J (U.setObj b o') K (x::y::(b,o')::L):=
 ((h.perm<|Kl ..).pP o').perm (Kl ..).symm
theorem Nr {α:Type} (x y z u:α) (L:List α):(x::y::z::u::L).Perm (u::x::y::z::L):=
 (List.Perm.cons x<|Kl y z u L).trans (List.Perm.swap u x (y::z::L))
theorem J.QP {b:Nat} {o:cM} {x y z:Nat×cM} (h:J U K (x::y::z::(b,o)::L)) (o':cM):J (U.setObj b o') K (x::y::z::(b,o')::L):=
 ((h.perm<|Nr ..).pP o').perm (Nr ..).symm
theorem J.yl {b:Nat} {o:cM} (h:J U K ((b,o)::L)) (o':cM):J ((U.drop b).alloc o') K ((U.next,o')::L):=by
 refine J.alloc (U:=U.drop b) ⟨fun b' o'' hb=>?_,fun e he=>?_,h.pop.ne⟩ o'
 ·obtain⟨h1,u,z⟩:=h.kept b' o'' hb;exact⟨h1,by rw[show(U.drop b).m.get b'=U.m.get b' from PT.du _ _ _ _ (fun e=>z _ (mS_ ..) e.symm)];exact u,fun e he=>z e (mC_ _ he)⟩
 obtain⟨h1,u⟩:=h.own e (mC_ _ he);exact⟨h1,by rw[show(U.drop b).m.get e.1=U.m.get e.1 from PT.du _ _ _ _ (fun A=>(List.pairwise_cons.1 h.ne).1 e he A.symm)];exact u⟩
theorem J.named (h:J U K L):∃L',J U K L'/\L=L':=⟨L,h,Z⟩
theorem J.ext {U':I} (h:J U K L) (he:Ext U U'):J U' K L where
 kept b o hb:=let ⟨h1,u,z⟩:=h.kept b o hb;⟨Nat.lt_of_lt_of_le h1 he.1,he.2 b o h1 u,z⟩
 own e hm:=let ⟨h1,u⟩:=h.own e hm;⟨Nat.lt_of_lt_of_le h1 he.1,he.2 _ _ h1 u⟩
 ne:=h.ne
end
def il (K:H) (p:V) (vs:List V):Prop:=
 ∃(b off:Nat) (cells:List V) (e:Nat) (ro:Bool),p= .ptr b off/\K b (.row cells e ro)/\off+vs.length<=cells.length/\(cells.drop off).take vs.length=vs
theorem il.mono {K K':H} (hk:H.le K K') {p:V} {vs:List V} (h:il K p vs):il K' p vs:=
 let ⟨b,off,cells,e,ro,h1,u,z,h4⟩:=h;⟨b,off,cells,e,ro,h1,hk _ _ u,z,h4⟩
def Ni (m len:Nat) (c:qf):Prop:=c= .upto m∨∃n,c= .known n/\len<=n
def bJ {α:Type} (K:H) (m:Nat) (R:α->List V->Prop) (l:List α) (v:V):Prop:=
 (l= []/\v= .au)∨∃(b off:Nat) (c:qf) (cells:List V) (e:Nat) (ro:Bool),v= .slice b off l.length c/\Ni m l.length c/\K b (.row cells e ro)/\off+l.length*m<=cells.length/\l.length<=9223372036854775807/\
  ∀(i:Nat) (x:α),l[i]?=some x->R x ((cells.drop (off+i*m)).take m)
theorem bJ.mono {α:Type} {K K':H} {m:Nat} {R R':α->List V->Prop} {l:List α} {v:V} (h:bJ K m R l v) (hk:H.le K K') (u:∀x vs,R x vs->R' x vs):bJ K' m R' l v:=by
 rcases h with h | ⟨b,off,c,cells,e,ro,h1,z,A,h4,h5⟩
 ·exact .inl h
 exact .inr ⟨b,off,c,cells,e,ro,h1,z,hk _ _ A,h4,h5.1,fun i x hx=>u x _ (h5.2 i x hx)⟩
theorem bJ.bG {α:Type} {K:H} {m:Nat} {R:α->List V->Prop} {l:List α} {v:V} (h:bJ K m R l v):l.length<=9223372036854775807:=by
 rcases h with ⟨rfl,_⟩ | ⟨b,off,c,cells,e,ro,h1,h2,h3,h4,h5,_⟩
 ·exact Nat.zero_le _
 exact h5
theorem bJ.leaf {α:Type} {K:H} {m:Nat} {R:α->List V->Prop} {l:List α} {v:V} (h:bJ K m R l v):cW v=some [v]/\jb v=true:=by
 rcases h with ⟨_,rfl⟩ | ⟨b,off,c,cells,e,ro,rfl,_⟩<;>exact⟨rfl,rfl⟩
theorem bJ.xL {α:Type} {K:H} {m:Nat} {R:α->List V->Prop} {l:List α} {v:V} (h:bJ K m R l v) {P:Program} {t e:TypeId} (hu:P.underlying t=some (.slice e)):Go.Ev.xL P t v=some l.length:=by
 rcases h with ⟨rfl,rfl⟩ | ⟨b,off,c,cells,e,ro,rfl,_⟩
 ·simp only[Go.Ev.xL,hu];rfl
 simp only[Go.Ev.xL,hu]
theorem bJ.at {α:Type} {K:H} {m:Nat} {R:α->List V->Prop} {l:List α} {v:V} (h:bJ K m R l v) {i:Nat} {x:α} (hi:l[i]?=some x):
  ∃(b off:Nat) (c:qf) (vs:List V),v= .slice b off l.length c/\i<l.length/\il K (.ptr b (off+i*m)) vs/\vs.length=m/\R x vs:=by
 have u:i<l.length:=(gA.1 hi).1;rcases h with ⟨rfl,_⟩ | ⟨b,off,c,cells,e,ro,rfl,h2,A,h4,h5⟩
 ·simp_all
 have hle:(i+1)*m<=l.length*m:=nM_ _ u;rw[Nat.succ_mul] at hle;have z:((cells.drop (off+i*m)).take m).length=m:=by grind
 refine⟨b,off,c,_,Z,u,⟨b,off+i*m,cells,e,ro,Z,A,by rw[z];omega,by rw[z]⟩,z,h5.2 i x hi⟩
section
variable {P:Program} {G:Cx} {ev:Operand->Option V} {U:I} {K:H} {L:Own}
theorem aW {α:Type} {m:Nat} {R:α->List V->Prop} {l:List α} {c:Call} {t e:TypeId} {x:Operand} {v:V} (z:bJ K m R l v) (hc:c.callee= .builtin .len) (u:c.argTypes[0]?=some t) (A:c.args.toList= [x]) (hu:P.underlying t=some (.slice e)) (hx:ev x=some v):dX P G ev U (.call c)= .val (.int .i64 (.ofNat l.length)) U:=by
 refine bf (by simp[kindOf,hc,isMap,u,hu]) ?_;simp only[di,hc,u,A,hx,z.xL hu,Option.map_some]
theorem iv {c:Call} {t:TypeId} {x:Operand} {s:List Nat} (hc:c.callee= .builtin .len) (u:c.argTypes[0]?=some t) (z:c.args.toList= [x]) (hu:P.underlying t=some .string) (hx:ev x=some (.str s)):dX P G ev U (.call c)= .val (.int .i64 (.ofNat<|cY s)) U:=by
 refine bf (by simp[kindOf,hc,isMap,u,hu]) ?_;simp only[di,hc,u,z,hx,xL,hu,Option.map_some]
theorem aV {t:TypeId} {x:Operand} {p v:V} {vs:List V} (u:J U K L) (hp:il K p vs) (hx:ev x=some p) (z:dO P t=some none) (hv:vs[0]?=some v):dX P G ev U (.load t x)= .val v U:=by
 obtain⟨b,off,cells,e,ro,rfl,A,h3,h4⟩:=hp;refine ay hx (u.fx A) z ?_
 grind [eL]
theorem Lj {t:TypeId} {x:Operand} {p:V} {vs:List V} {n:Nat} (u:J U K L) (hp:il K p vs) (hx:ev x=some p) (z:dO P t=some (some n)) (hv:n<=vs.length):dX P G ev U (.load t x)= .val (.agg<|vs.take n) U:=by
 obtain⟨b,off,cells,e,ro,rfl,A,h3,h4⟩:=hp;refine aP hx (u.fx A) z B ?_
 grind
end
section
variable {P:Program} {G:Cx} {n:Nat} {t:PT V} {U:I} {K:H} {L:Own} {Q:Ex->PT V->I->Prop} {ops:Array Oper} {o:Oper} {l:List Oper}
theorem aN {c:Bool} {t':Bool->PT V} (hw:bS ops t o=some true) (hv:dX P G (bI G t) U o.op= .val (.bool c) U) (hp:∀b,dG t n o.dst (.bool b)=some (t' b))
  (h1:c=true->bV P G ops n l (t' true) U Q) (h0:c=false->bV P G ops n l (t' false) U Q):bV P G ops n (o::l) t U Q:=by
 refine O hw hv (hp c) ?_;cases c with
 | true=>exact h1 Z
 | false=>exact h0 Z
theorem bC (u:J U K L) {ob:cM} {t':Nat->PT V} (hw:bS ops t o=some true) (hv:dX P G (bI G t) U o.op= .val (.ptr U.next 0) (U.alloc ob)) (hp:∀b,dG t n o.dst (.ptr b 0)=some (t' b))
  (h:∀(U':I) (b:Nat),J U' K ((b,ob)::L)->bV P G ops n l (t' b) U' Q):bV P G ops n (o::l) t U Q:=
 O hw hv (hp _) (h _ _<|u.alloc ob)
theorem gD (u:J U K L) {ob:cM} {k c:Nat} {t':Nat->PT V} (hw:bS ops t o=some true) (hv:dX P G (bI G t) U o.op= .val (.slice U.next 0 k (.known c)) (U.alloc ob)) (hp:∀b,dG t n o.dst (.slice b 0 k (.known c))=some (t' b))
  (h:∀(U':I) (b:Nat),J U' K ((b,ob)::L)->bV P G ops n l (t' b) U' Q):bV P G ops n (o::l) t U Q:=
 O hw hv (hp _) (h _ _<|u.alloc ob)
theorem bF {b:Nat} {ob ob':cM} {t':PT V} (u:J U K ((b,ob)::L)) (hw:bS ops t o=some true) (hv:dX P G (bI G t) U o.op= .skip (U.setObj b ob')) (hp:dG t n o.dst unit=some t')
  (h:∀U',J U' K ((b,ob')::L)->bV P G ops n l t' U' Q):bV P G ops n (o::l) t U Q:=iR hw hv hp (h _<|u.pP ob')
theorem dF {b:Nat} {ob ob':cM} {x:Nat×cM} {t':PT V} (u:J U K (x::(b,ob)::L)) (hw:bS ops t o=some true) (hv:dX P G (bI G t) U o.op= .skip (U.setObj b ob')) (hp:dG t n o.dst unit=some t')
  (h:∀U',J U' K (x::(b,ob')::L)->bV P G ops n l t' U' Q):bV P G ops n (o::l) t U Q:=iR hw hv hp (h _<|u.MO ob')
theorem xU {b:Nat} {ob ob':cM} {x y:Nat×cM} {t':PT V} (u:J U K (x::y::(b,ob)::L)) (hw:bS ops t o=some true) (hv:dX P G (bI G t) U o.op= .skip (U.setObj b ob')) (hp:dG t n o.dst unit=some t')
  (h:∀U',J U' K (x::y::(b,ob')::L)->bV P G ops n l t' U' Q):bV P G ops n (o::l) t U Q:=iR hw hv hp (h _<|u.QO ob')
theorem jF {b:Nat} {ob ob':cM} {x y z:Nat×cM} {t':PT V} (u:J U K (x::y::z::(b,ob)::L)) (hw:bS ops t o=some true) (hv:dX P G (bI G t) U o.op= .skip (U.setObj b ob')) (hp:dG t n o.dst unit=some t')
  (h:∀U',J U' K (x::y::z::(b,ob')::L)->bV P G ops n l t' U' Q):bV P G ops n (o::l) t U Q:=iR hw hv hp (h _<|u.QP ob')
theorem bX {α:Type} {m:Nat} {R:α->List V->Prop} {la:List α} {v:V} {i:Nat} {x:α} {ty e:TypeId} {xo io:Operand} {k:IntKind} {t':V->PT V} (A:bJ K m R la v) (hi:la[i]?=some x) (hw:bS ops t o=some true) (C:o.op= .indexAddr ty xo io)
  (E:P.underlying ty=some (.slice e)) (hj:(P.info? e).map (·.size)=some m) (hx:bI G t xo=some v) (u:bI G t io=some (.int k (.ofNat i))) (hp:∀p,dG t n o.dst p=some (t' p))
  (h:∀p vs,il K p vs->vs.length=m->R x vs->bV P G ops n l (t' p) U Q):bV P G ops n (o::l) t U Q:=by
 obtain⟨b,off,c,vs,rfl,z,h1,F,M⟩:=A.at hi;refine O hw ?_ (hp _)<|h _ vs h1 F M;rw[C];exact dD E hj hx u z
theorem bZ {p:V} {vs:List V} {s:TypeId} {xo:Operand} {i k:Nat} {t':V->PT V} (u:il K p vs) (hw:bS ops t o=some true) (z:o.op= .fieldAddr s xo i) (hx:bI G t xo=some p) (hk:ow P s i=some k) (hl:k<=vs.length) (hp:∀p,dG t n o.dst p=some (t' p))
  (h:∀p',il K p' (vs.drop k)->bV P G ops n l (t' p') U Q):bV P G ops n (o::l) t U Q:=by
 obtain⟨b,off,cells,e,ro,rfl,A,h3,h4⟩:=u;refine O hw ?_ (hp _)<|h _ ⟨b,off+k,cells,e,ro,Z,A,by grind,?_⟩
 ·rw[z];exact ax hx hk
 grind [List.drop_take,List.drop_drop]
theorem cd {f:Nat} {args:List V} {t':V->PT V} {R:V->I->Prop} (hw:bS ops t o=some true) (hv:dX P G (bI G t) U o.op= .enter f args U) (hp:∀v,dG t n o.dst v=some (t' v))
  (hc:bm P G f args U R) (h:∀v U',R v U'->bV P G ops n l (t' v) U' Q):bV P G ops n (o::l) t U Q:=
 ES hw hv (hc.mono fun v U' u=>⟨_,hp v,h v U' u⟩)
theorem aD {x:Operand} {a b:Code} {c:Bool} (hc:bI G t x=some (.bool c)) (h1:c=true->Ev P G a n t U Q) (h0:c=false->Ev P G b n t U Q):Ev P G (.cond x a b) n t U Q:=by
 refine AR hc ?_
 grind
end
theorem aA:cF []=true:=rfl
theorem N {v:V} {vs:List V} (h:jb v=true) (hs:cF vs=true):cF (v::vs)=true:=by
 grind [cF]
section
variable {P:Program} {G:Cx} {ev:Operand->Option V} {U:I} {K:H} {L:Own}
theorem aJ {t:TypeId} {m:Nat} {x y:Operand} {b:Pos} {off:Nat} {v:V} {cs cells cells':List V} {e:Nat} (hx:ev x=some (.ptr b off)) (hy:ev y=some v) (hc:cW v=some cs) (hb:U.m.get b=some (.row cells e false)) (hj:(P.info? t).map (·.size)=some m) (hl:cs.length=m) (hle:off+m<=cells.length) (u:cF cs=true) (z:dI cs cells off=cells'):
  dX P G ev U (.store t x y)= .skip (U.setObj b (.row cells' e false)):=by
 subst z;exact gX hx hy hc hb hj hl hle u
theorem bQ {t:TypeId} {x:Operand} {p:V} {vs:List V} {n:Nat} (hs:J U K L) (hp:il K p vs) (hx:ev x=some p) (ha:dO P t=some (some n)) (hv:vs.length=n):dX P G ev U (.load t x)= .val (.agg vs) U:=by
 grind [Lj,List.take_length]
def placesOf (P:Program) (t:TypeId):Option (List (Nat×Nat)):=(structOf P t).bind fun fs=>cU (fun f:Field=>(P.info? f.type).map fun j=>(f.offset,j.size)) fs.toList
theorem bH {place:Nat->Option (Nat×Nat)} {cells:List V}:kL place ev [] cells=some cells:=rfl
theorem bA {place:Nat->Option (Nat×Nat)} {i:Nat} {x:Operand} {l:List (Nat×Operand)} {cells:List V} {off size:Nat} {v:V} {vs:List V} {r:Option (List V)} (hp:place i=some (off,size)) (hx:ev x=some v) (hc:cW v=some vs) (hl:(Nat.beq (cY vs) size && Nat.ble (off+size) (cY cells))=true) (h:kL place ev l (dI vs cells off)=r):kL place ev ((i,x)::l) cells=r:=by
 grind [kL]
theorem bE {t:TypeId} {parts:Array (Nat×Operand)} {places:List (Nat×Nat)} {zero cs:List V} (hp:placesOf P t=some places) (z:(fJ P t).bind cW=some zero) (hu:dO P t=some (some zero.length)) (hf:kL (nth places) ev parts.toList zero=some cs) (u:(structOf P t).isSome=true):dX P G ev U (.build t parts)= .val (.agg cs) U:=by
 refine bf Z ?_;unfold placesOf structOf at hp;unfold structOf at u;rw[oT] at hp u;simp only[di,z]
 grind
theorem ew {s d:TypeId} {x:Operand} {j k:IntKind} {n:Int} (hk:kindOf P (.convert s d x)= .pure) (u:P.underlying s=some (.int j)) (z:P.underlying d=some (.int k)) (hx:ev x=some (.int j n)):dX P G ev U (.convert s d x)= .val (.int k<|wr k n) U:=by
 refine bf hk ?_;simp only[di,u,z,hx]
end
section
variable {P:Program} {G:Cx} {n:Nat} {t:PT V} {U:I} {K:H} {L:Own} {Q:Ex->PT V->I->Prop} {ops:Array Oper} {o:Oper} {l:List Oper}
theorem Bh {f:Nat} {args:List V} {c:Bool} {t':V->PT V} (hw:bS ops t o=some true) (hv:dX P G (bI G t) U o.op= .enter f args U) (hp:∀v,dG t n o.dst v=some (t' v))
  (hc:bm P G f args U fun v U'=>v= .bool c/\J U' K L) (h1:c=true->∀U',J U' K L->bV P G ops n l (t' (.bool true)) U' Q) (h0:c=false->∀U',J U' K L->bV P G ops n l (t' (.bool false)) U' Q):bV P G ops n (o::l) t U Q:=
 cd hw hv hp hc fun v U' ⟨hv,aq⟩=>by
  subst hv;cases c with
  | true=>exact h1 Z U' aq
  | false=>exact h0 Z U' aq
theorem bj {f:Nat} {args:List V} {u:V} {t':V->PT V} (hw:bS ops t o=some true) (hv:dX P G (bI G t) U o.op= .enter f args U) (hp:∀v,dG t n o.dst v=some (t' v))
  (hc:bm P G f args U fun v U'=>v=u/\J U' K L) (h:∀U',J U' K L->bV P G ops n l (t' u) U' Q):bV P G ops n (o::l) t U Q:=
 cd hw hv hp hc fun v U' ⟨hv,aq⟩=>by simp_all
theorem aH {x:Operand} {a b:Code} (hc:bI G t x=some (.bool true)) (h:Ev P G a n t U Q):Ev P G (.cond x a b) n t U Q:=AR hc h
theorem aL {x:Operand} {a b:Code} (hc:bI G t x=some (.bool false)) (h:Ev P G b n t U Q):Ev P G (.cond x a b) n t U Q:=AR hc h
theorem ad {b:Code} (h:Ev P G b n t U Q):cP P G n b Q .normal t U:=h
theorem aI {id:Nat} (h:Q .normal t U):iP id Q .normal t U:=h
theorem aE {id:Nat} (h:Q .ret t U):iP id Q .ret t U:=h
def xR (I_:Nat->PT V->I->Prop) (j:Nat) (Q:Ex->PT V->I->Prop) (e:Ex) (t:PT V) (U:I):Prop:=
 match e with
 | .normal=>∃i,i<j/\I_ i t U
 | e=>Q e t U
theorem aM {I_:Nat->PT V->I->Prop} {j:Nat} (h:∃i,i<j/\I_ i t U):xR I_ j Q .normal t U:=h
theorem ba {I_:Nat->PT V->I->Prop} {j i:Nat} (h:Q (.exit i) t U):xR I_ j Q (.exit i) t U:=h
theorem bq {I_:Nat->PT V->I->Prop} {j:Nat} (h:Q .ret t U):xR I_ j Q .ret t U:=h
theorem Jy {b:Code} (I_:Nat->PT V->I->Prop) (j:Nat) (u:I_ j t U) (step:∀j t U,I_ j t U->Ev P G b n t U (xR I_ j Q)):Ev P G (.loop b) n t U Q:=
 L3 I_ (fun j t U h=>(step j t U h).mono fun e t' U' hq=>by cases e<;>exact hq) j t U u
end
def Mm:Nat:=70
def Fc (f:Nat):Bool:=Nat.beq f 9 || Nat.beq f 18
structure Plain (G:Cx):Prop where
 h1:∀f a s,G.II f a s=none
 h2:∀f a,Fc f=false->G.IL f a=none
 h3:G.mem= []
 h4:∀f a s,G.stop f a s=none
 h5:∀f,Nat.beq f Mm=false->G.fk f=false
theorem Jz {P:Program} {G:Cx} (u:Plain G) {f:Nat} {fn:Func} {c:Code} {args:List V} {U:I} {R:V->I->Prop} {t:PT V} (hf:P.funcs[f]?=some fn) (hb:fn.body=some c) (z:r6 fn.ntmps args=some t)
  (h:Ev P G c fn.ntmps t U fun e t' U'=>(e= .normal∨e= .ret)/\∃v,fg P fn t' U'=some v/\R v U') (hk:Nat.beq f Mm=false:=by rfl) (hl:Fc f=false:=by rfl):bm P G f args U R:=
 L2 (u.h1 _ _ _) (u.h2 _ _ hl) (u.h4 _ _ _) (u.h5 _ hk) hf hb z h
def AO (P:Program) (fn:Func) (R:V->I->Prop) (e:Ex) (t:PT V) (U:I):Prop:=(e= .normal∨e= .ret)/\∃v,fg P fn t U=some v/\R v U
theorem bh {P:Program} {G:Cx} (u:Plain G) {f:Nat} {fn:Func} {c:Code} {args:List V} {U:I} {R:V->I->Prop} {t:PT V} (hf:P.funcs[f]?=some fn) (hb:fn.body=some c) (z:r6 fn.ntmps args=some t)
  (h:Ev P G c fn.ntmps t U (AO P fn R)) (hk:Nat.beq f Mm=false:=by rfl) (hl:Fc f=false:=by rfl):bm P G f args U R:=Jz u hf hb z h hk hl
theorem Dp {P:Program} {fn:Func} {k:Nat} {t:PT V} {U:I} {v:V} (u:fn.results.toList= [.tmp k]) (h:t.get k=some v):fg P fn t U=some v:=by
 unfold fg;rw[u]
 have:cU (fS P t U) [.tmp k]=some [v]:=by
  have h':fS P t U (.tmp k)=some v:=h;unfold cU;simp only[h']
 rw[this]
theorem Dq {P:Program} {fn:Func} {j k:Nat} {t:PT V} {U:I} {u v:V} (C:fn.results.toList= [.tmp j,.tmp k]) (h1:t.get j=some u) (E:t.get k=some v):fg P fn t U=some (.tuple [u,v]):=by
 unfold fg;rw[C]
 have:cU (fS P t U) [.tmp j,.tmp k]=some [u,v]:=by
  have z:fS P t U (.tmp j)=some u:=h1;have A:fS P t U (.tmp k)=some v:=E;unfold cU;simp only[z,A]
 rw[this]
theorem aB {P:Program} {fn:Func} {R:V->I->Prop} {t:PT V} {U:I} {k:Nat} {v:V} (u:fn.results.toList= [.tmp k]) (h:t.get k=some v) (z:R v U):AO P fn R .ret t U:=⟨.inr Z,v,Dp u h,z⟩
theorem bU {P:Program} {fn:Func} {R:V->I->Prop} {t:PT V} {U:I} {j k:Nat} {u v:V} (z:fn.results.toList= [.tmp j,.tmp k]) (h1:t.get j=some u) (A:t.get k=some v) (C:R (.tuple [u,v]) U):AO P fn R .ret t U:=⟨.inr Z,_,Dq z h1 A,C⟩
end Go.Ev
namespace Go.Ev
theorem kQ.eta {α:Type} (t:kQ α):t=⟨(kB 0).run t,(kB 1).run t,(kB 2).run t,(kB 3).run t,(kB 4).run t,(kB 5).run t,(kB 6).run t,(kB 7).run t,(kB 8).run t,(kB 9).run t,(kB 10).run t,(kB 11).run t,(kB 12).run t,(kB 13).run t,(kB 14).run t,(kB 15).run t⟩:=by cases t;rfl
theorem kQ.same {α:Type} {t t':kQ α} (h:∀n,n<16->(kB n).run t=(kB n).run t'):t=t':=by
 rw[kQ.eta t,h 0 (by decide),h 1 (by decide),h 2 (by decide),h 3 (by decide),h 4 (by decide),h 5 (by decide),h 6 (by decide),h 7 (by decide),h 8 (by decide),h 9 (by decide),h 10 (by decide),h 11 (by decide),h 12 (by decide),h 13 (by decide),h 14 (by decide),h 15 (by decide),<-kQ.eta t']
theorem jZ.same {α:Type} {t t':jZ α} (h:∀k,k<256->kH t k=kH t' k):t=t':=by
 refine kQ.same fun n hn=>kQ.same fun m hm=>?_
 have:=h (n*16+m) B;unfold kH at this;have e1:Nat.div (n*16+m) 16=n:=by show(n*16+m)/16=n;omega
 have e2:Nat.mod (n*16+m) 16=m:=by show(n*16+m)%16=m;omega
 simp_all
variable [Env]
def aZ (W:List Nat) (t t':PT V):Prop:=t'.m=t.m/\t'.l=t.l/\∀k,k<256->W.elem k=false->kH t'.s k=kH t.s k
theorem aZ.refl (W:List Nat) (t:PT V):aZ W t t:=⟨Z,Z,fun _ _ _=>Z⟩
theorem aZ.put {W:List Nat} {t t':PT V} {w:Nat} {o:Option V} (hw:(W.elem w && Nat.blt w 256)=true) (h:aZ W t t'):aZ W t (t'.put o w):=by
 obtain⟨h1,u,z⟩:=h;rw[bA_,wh] at hw;obtain⟨s,m,l⟩:=t';rw[PT.tK _ _ _ _ hw.2];refine⟨h1,u,fun k hk A=>?_⟩;show kH (qN s w o) k=_;rw[mT _ _ _ _ hw.2 hk,if_neg (fun e=>by simp_all)];exact z k hk A
theorem aZ.dK {W:List Nat} {t t':PT V} {w:Nat} (hw:Nat.blt w 256=true) (h:aZ (w::W) t t'):∃o,aZ W (t.put o w) t':=by
 rw[wh] at hw;obtain⟨h1,u,h3⟩:=h;refine⟨t'.get w,?_⟩;obtain⟨s,m,l⟩:=t;rw[PT.tK _ _ _ _ hw,PT.qy _ hw];refine⟨h1,u,fun k hk hn=>?_⟩
 grind [mT]
theorem aZ.jE {W:List Nat} {t t':PT V} {a b c d:Nat} (hw:(Nat.blt a 256 && (Nat.blt b 256 && (Nat.blt c 256 && Nat.blt d 256)))=true) (h:aZ (a::b::c::d::W) t t'):∃u z A C,aZ W ((((t.put u a).put z b).put A c).put C d) t':=by
 simp only[bA_] at hw;obtain⟨h1,E,F,h4⟩:=hw;obtain⟨u,h⟩:=h.dK h1;obtain⟨z,h⟩:=h.dK E;obtain⟨A,h⟩:=h.dK F;obtain⟨C,h⟩:=h.dK h4
 grind
theorem aZ.cm {W:List Nat} {t t':PT V} {a b c d e f g i:Nat} (hw:(Nat.blt a 256 && (Nat.blt b 256 && (Nat.blt c 256 && Nat.blt d 256)))=true) (u:(Nat.blt e 256 && (Nat.blt f 256 && (Nat.blt g 256 && Nat.blt i 256)))=true) (h:aZ (a::b::c::d::e::f::g::i::W) t t'):
  ∃z A C E F K L M,aZ W ((((((((t.put z a).put A b).put C c).put E d).put F e).put K f).put L g).put M i) t':=by
 obtain⟨z,A,C,E,h⟩:=h.jE hw;obtain⟨F,K,L,M,h⟩:=h.jE u
 grind
theorem aZ.nil {t t':PT V} (h:aZ [] t t'):t'=t:=by
 obtain⟨s,m,l⟩:=t;obtain⟨s',m',l'⟩:=t';obtain⟨h1,h2,u⟩:=h;have:s'=s:=jZ.same fun k hk=>u k hk Z
 simp_all
section
variable {P:Program} {G:Cx} {n:Nat} {t:PT V} {U:I} {Q:Ex->PT V->I->Prop}
theorem bp {b:Code} (W:List Nat) (I_:Nat->PT V->I->Prop) (j:Nat) (u:I_ j t U) (step:∀j t' U,aZ W t t'->I_ j t' U->Ev P G b n t' U (xR (fun j t'' U=>aZ W t t''/\I_ j t'' U) j Q)):Ev P G (.loop b) n t U Q:=
 Jy (fun j t'' U=>aZ W t t''/\I_ j t'' U) j ⟨aZ.refl _ _,u⟩ fun j t' U h=>step j t' U h.1 h.2
end
theorem mn {a b:Nat}:bR (.ofNat a) (.ofNat b)=decide (a<b):=by
 show Nat.ble (Nat.succ a) b=_;rw[Bool.eq_iff_iff,nE_,decide_eq_true_iff];rfl
theorem fG {a b:Nat}:D (.ofNat a) (.ofNat b)=decide (a=b):=by
 show Nat.beq a b=_;rw[Bool.eq_iff_iff,Nat.beq_eq,decide_eq_true_iff]
theorem bg {i:Nat} (h:i<9223372036854775807):wr .i64 (Int.add (.ofNat i) (.ofNat 1))= .ofNat (i+1):=by
 show(bif Nat.ble (i+1) 9223372036854775807 then _ else _)=_
 grind [nE_]
end Go.Ev
namespace Go.Ev
variable [Env]
section
variable {P:Program} {G:Cx} {n:Nat} {t:PT V} {U:I} {K:H} {L:Own} {Q:Ex->PT V->I->Prop} {ops:Array Oper} {o:Oper} {i:Nat} {rc:List Nat} {l:List (Nat×List Nat)}
theorem eX {v:V} {t':PT V} {U':I} (hi:ops[i]?=some o) (hw:bS ops t o=some true) (hv:dX P G (bI G t) U o.op= .val v U') (hp:dG t n o.dst v=some t') (h:dk P G ops t' U' rc=true/\cG P G ops n l t' U' Q):cG P G ops n ((i,rc)::l) t U Q:=by
 obtain⟨hs,K,e,u,z,h1,A⟩:=h;refine⟨K,e,u,z,fun k hk=>?_,A⟩
 show(match ops[i]? with
  | some o=>jx P G (eB P G k) false ops n o t U (fun t' U'=>bif dk P G ops t' U' rc then kx P G (eB P G k) ops n [] l t' U' else .err 86)
  | none=>.err 87)=_
 grind [jx,mh]
theorem pr {t':PT V} {U':I} (hi:ops[i]?=some o) (hw:bS ops t o=some true) (hv:dX P G (bI G t) U o.op= .skip U') (hp:dG t n o.dst unit=some t') (h:dk P G ops t' U' rc=true/\cG P G ops n l t' U' Q):cG P G ops n ((i,rc)::l) t U Q:=by
 obtain⟨hs,K,e,u,z,h1,A⟩:=h;refine⟨K,e,u,z,fun k hk=>?_,A⟩
 show(match ops[i]? with
  | some o=>jx P G (eB P G k) false ops n o t U (fun t' U'=>bif dk P G ops t' U' rc then kx P G (eB P G k) ops n [] l t' U' else .err 86)
  | none=>.err 87)=_
 grind [jx,mh]
theorem aT:dk P G ops t U []=true:=rfl
theorem bx {j:Nat} {l:List Nat} (h:jJ P G ops t U j=true) (hl:dk P G ops t U l=true):dk P G ops t U (j::l)=true:=by
 grind [dk]
theorem bO {k:Nat} {v:V} (hi:ops[i]?=some o) (hw:bS ops t o=some true) (hd:o.dst=some k) (hg:t.get k=some v) (hk:kindOf P o.op= .read) (h:dX P G (bI G t) U o.op= .val v U) (hb:dZ v v=true):jJ P G ops t U i=true:=by
 have hr:hJ P (bI G t) U o.op=some v:=by
  grind [dX]
 unfold jJ
 simp_all
theorem KJ (hi:ops[i]?=some o) (hw:bS ops t o=some false):jJ P G ops t U i=true:=by
 unfold jJ
 simp_all
theorem fH {k b e:Nat} {cs:List V} (hi:ops[i]?=some o) (hw:bS ops t o=some true) (hd:o.dst=some k) (hg:t.get k=some (.ptr b 0)) (hk:kindOf P o.op= .alloc) (ha:fO P (bI G t) o.op=some (.row cs e false,.ptr)) (hm:U.m.get b=some (.row cs e false)) (hb:dZ.beqL cs cs=true):jJ P G ops t U i=true:=by
 unfold jJ
 simp_all
theorem fX (k:IntKind) (n:Int):dZ.eI (.int k n) (.int k n)=true:=by
 show(s7 k k && D n n)=true;rw[dE];cases k<;>simp[s7]
theorem td (s:List Nat):dZ.eI (.str s) (.str s)=true:=by
 show gY s s=true;rw[mQ];simp
theorem bJ.eI {α:Type} {K:H} {m:Nat} {R:α->List V->Prop} {l:List α} {v:V} (h:bJ K m R l v):dZ.eI v v=true:=by
 rcases h with ⟨_,rfl⟩ | ⟨b,off,c,cells,e,ro,rfl,hc,_⟩
 ·rfl
 show(dZ.beqP b b && Nat.beq off off && Nat.beq l.length l.length && dZ.beqC c c)=true;have hp:dZ.beqP b b=true:=Nat.beq_refl b
 have u:dZ.beqC c c=true:=by
  rcases hc with rfl | ⟨n,rfl,_⟩
  ·exact Nat.beq_refl m
  exact Nat.beq_refl n
 simp[hp,u]
theorem eP:dZ.beqL [] []=true:=rfl
theorem bK {v:V} {vs:List V} (h:dZ.eI v v=true) (hs:dZ.beqL vs vs=true):dZ.beqL (v::vs) (v::vs)=true:=by
 grind [dZ.beqL]
theorem fK {vs:List V} (h:dZ.beqL vs vs=true):dZ (.agg vs) (.agg vs)=true:=h
theorem dC {c:Bool} {t':Bool->PT V} (u:ops[i]?=some o) (hw:bS ops t o=some true) (hv:dX P G (bI G t) U o.op= .val (.bool c) U) (hp:∀b,dG t n o.dst (.bool b)=some (t' b))
  (h1:c=true->cG P G ops n l (t' true) U Q) (h0:c=false->cG P G ops n l (t' false) U Q):cG P G ops n ((i,[])::l) t U Q:=by
 refine al u hw hv (hp c) ?_;cases c with
 | true=>exact h1 Z
 | false=>exact h0 Z
theorem nG (z:J U K L) {ob:cM} {t':Nat->PT V} (u:ops[i]?=some o) (hw:bS ops t o=some true) (hv:dX P G (bI G t) U o.op= .val (.ptr U.next 0) (U.alloc ob)) (hp:∀b,dG t n o.dst (.ptr b 0)=some (t' b))
  (h:∀(U':I) (b:Nat),J U' K ((b,ob)::L)->cG P G ops n l (t' b) U' Q):cG P G ops n ((i,[])::l) t U Q:=
 al u hw hv (hp _) (h _ _<|z.alloc ob)
theorem ie (z:J U K L) {ob:cM} {k c:Nat} {t':Nat->PT V} (u:ops[i]?=some o) (hw:bS ops t o=some true) (hv:dX P G (bI G t) U o.op= .val (.slice U.next 0 k (.known c)) (U.alloc ob)) (hp:∀b,dG t n o.dst (.slice b 0 k (.known c))=some (t' b))
  (h:∀(U':I) (b:Nat),J U' K ((b,ob)::L)->cG P G ops n l (t' b) U' Q):cG P G ops n ((i,[])::l) t U Q:=
 al u hw hv (hp _) (h _ _<|z.alloc ob)
theorem iE {b:Nat} {ob ob':cM} {t':PT V} (z:J U K ((b,ob)::L)) (u:ops[i]?=some o) (hw:bS ops t o=some true) (hv:dX P G (bI G t) U o.op= .skip (U.setObj b ob')) (hp:dG t n o.dst unit=some t')
  (h:∀U',J U' K ((b,ob')::L)->(dk P G ops t' U' rc=true/\cG P G ops n l t' U' Q)):cG P G ops n ((i,rc)::l) t U Q:=pr u hw hv hp (h _<|z.pP ob')
theorem Bj {b:Nat} {ob ob':cM} {x:Nat×cM} {t':PT V} (z:J U K (x::(b,ob)::L)) (u:ops[i]?=some o) (hw:bS ops t o=some true) (hv:dX P G (bI G t) U o.op= .skip (U.setObj b ob')) (hp:dG t n o.dst unit=some t')
  (h:∀U',J U' K (x::(b,ob')::L)->(dk P G ops t' U' rc=true/\cG P G ops n l t' U' Q)):cG P G ops n ((i,rc)::l) t U Q:=pr u hw hv hp (h _<|z.MO ob')
theorem cK {α:Type} {m:Nat} {R:α->List V->Prop} {la:List α} {v:V} {ix:Nat} {x:α} {ty e:TypeId} {xo io:Operand} {k:IntKind} {t':V->PT V} (C:bJ K m R la v) (hi:la[ix]?=some x) (u:ops[i]?=some o) (hw:bS ops t o=some true) (E:o.op= .indexAddr ty xo io)
  (F:P.underlying ty=some (.slice e)) (hj:(P.info? e).map (·.size)=some m) (hx:bI G t xo=some v) (z:bI G t io=some (.int k (.ofNat ix))) (hp:∀p,dG t n o.dst p=some (t' p))
  (h:∀p vs,il K p vs->vs.length=m->R x vs->cG P G ops n l (t' p) U Q):cG P G ops n ((i,[])::l) t U Q:=by
 obtain⟨b,off,c,vs,rfl,A,h1,M,W⟩:=C.at hi;refine al u hw ?_ (hp _)<|h _ vs h1 M W;rw[E];exact dD F hj hx z A
theorem ku {p:V} {vs:List V} {s:TypeId} {xo:Operand} {fi k:Nat} {t':V->PT V} (u:il K p vs) (z:ops[i]?=some o) (hw:bS ops t o=some true) (A:o.op= .fieldAddr s xo fi) (hx:bI G t xo=some p) (hk:ow P s fi=some k) (hl:k<=vs.length) (hp:∀p,dG t n o.dst p=some (t' p))
  (h:∀p',il K p' (vs.drop k)->cG P G ops n l (t' p') U Q):cG P G ops n ((i,[])::l) t U Q:=by
 obtain⟨b,off,cells,e,ro,rfl,C,h3,h4⟩:=u;refine al z hw ?_ (hp _)<|h _ ⟨b,off+k,cells,e,ro,Z,C,by grind,?_⟩
 ·rw[A];exact ax hx hk
 grind [List.drop_take,List.drop_drop]
theorem ic {f:Nat} {args:List V} {t':V->PT V} {R:V->I->Prop} (u:ops[i]?=some o) (hw:bS ops t o=some true) (hv:dX P G (bI G t) U o.op= .enter f args U) (hp:∀v,dG t n o.dst v=some (t' v))
  (hc:bm P G f args U R) (h:∀v U',R v U'->(dk P G ops (t' v) U' rc=true/\cG P G ops n l (t' v) U' Q)):cG P G ops n ((i,rc)::l) t U Q:=by
 refine CC u hw hv<|hc.mono fun v U' hr=>?_
 simp_all
theorem cy {f:Nat} {args:List V} {u:V} {t':V->PT V} (z:ops[i]?=some o) (hw:bS ops t o=some true) (hv:dX P G (bI G t) U o.op= .enter f args U) (hp:∀v,dG t n o.dst v=some (t' v))
  (hc:bm P G f args U fun v U'=>v=u/\J U' K L) (h:∀U',J U' K L->(dk P G ops (t' u) U' rc=true/\cG P G ops n l (t' u) U' Q)):cG P G ops n ((i,rc)::l) t U Q:=
 ic z hw hv hp hc fun v U' ⟨hv,aq⟩=>by simp_all
theorem aS {id:Nat} {l:List (Nat×List Nat)} (hf:uy P ops=true) (hl:j1 P ops=l) (h:cG P G ops n l t U Q):Ev P G (.region id ops true) n t U Q:=by
 subst hl;exact xk hf h
end
end Go.Ev
namespace Go.Ev
variable [Env]
section
variable {P:Program} {G:Cx} {n:Nat} {t:PT V} {U:I} {Q:Ex->PT V->I->Prop} {ops:Array Oper} {o:Oper} {l:List Oper}
end
section
variable {P:Program} {G:Cx} {n:Nat} {U:I} {Q:Ex->PT V->I->Prop} {ops:Array Oper}
def Fq (n:Nat) (t:PT V) (d:Option Nat) (v:Option V):Option (PT V):=match v with | some v=>dG t n d v | none=>none
def IW (P:Program) (k:Bool) (o:BinOp) (ty:TypeId) (a b:Option V):Option V:=match a with | some a=>(match b with | some b=>vV P k o ty a b | none=>none) | none=>none
def Di (c a b:Option V):Option V:=match c with | some (.bool q)=>if q then a else b | _=>none
def Ok (P:Program) (G:Cx) (t:PT V) (op:Op):Option V:=
 match op with
 | .move x=>bI G t x
 | .assign x=>bI G t x
 | .pick c a b=>Di (bI G t c) (bI G t a) (bI G t b)
 | .binOp o ty x y _=>IW P (zQ x || zQ y) o ty (bI G t x) (bI G t y)
 | .extract x i=>di P (bI G t) (.extract x i)
 | .makeFunc x y z=>di P (bI G t) (.makeFunc x y z)
 | .unOp x y z=>di P (bI G t) (.unOp x y z)
 | .field x y z=>di P (bI G t) (.field x y z)
 | _=>none
theorem xV {t:PT V} {op:Op} {v:V} (h:Ok P G t op=some v):dX P G (bI G t) U op= .val v U:=by
 unfold Ok at h;split at h
 ·exact an h
 ·exact aj h
 ·unfold Di at h;split at h
  ·rename_i q hc;exact aF hc h
  cases h
 ·unfold IW at h;split at h
  ·rename_i a u;split at h
   ·rename_i b hb;exact az u hb h
   cases h
  cases h
 ·exact bf Z h
 ·exact bf Z h
 ·exact bf Z h
 ·exact bf Z h
 cases h
def nj (P:Program) (G:Cx) (ops:Array Oper) (n:Nat) (t:PT V) (o:Oper):Option (PT V):=
 match bS ops t o with
 | some w=>bif w then Fq n t o.dst (Ok P G t o.op) else dG t n o.dst unit
 | none=>none
theorem tQ {t t':PT V} {o:Oper} {l:List Oper} (h:nj P G ops n t o=some t') (u:bV P G ops n l t' U Q):bV P G ops n (o::l) t U Q:=by
 unfold nj at h;split at h
 ·rename_i w hw;cases w with
  | true=>
   simp only[cond_true] at h;unfold Fq at h;split at h
   ·rename_i v hv;exact O hw (xV hv) h u
   cases h
  | false=>exact ah hw h u
 cases h
def quick (P:Program) (G:Cx) (ops:Array Oper) (n:Nat):Nat->List Oper->PT V->Option (List Oper×PT V)
 | 0,l,t=>some (l,t)
 | k+1,l,t=>match l with
  | o::l=>match nj P G ops n t o with
   | some t'=>quick P G ops n k l t'
   | none=>none
  | []=>none
theorem vQ (k:Nat) {l l':List Oper} {t t':PT V} (h:quick P G ops n k l t=some (l',t')) (u:bV P G ops n l' t' U Q):bV P G ops n l t U Q:=by
 induction k generalizing l t with
 | zero=>simp only[quick,oJ_,Prod.mk.injEq] at h;obtain⟨rfl,rfl⟩:=h;exact u
 | succ k ih=>
  unfold quick at h;split at h
  ·split at h
   ·rename_i t1 h1;exact tQ h1<|ih h
   cases h
  cases h
def pL (P:Program) (G:Cx) (ops:Array Oper) (n:Nat):Nat->List (Nat×List Nat)->PT V->Option (List (Nat×List Nat)×PT V)
 | 0,l,t=>some (l,t)
 | k+1,l,t=>match l with
  | (i,[])::l=>match ops[i]? with
   | some o=>match nj P G ops n t o with
    | some t'=>pL P G ops n k l t'
    | none=>none
   | none=>none
  | _=>none
theorem tP {t t':PT V} {i:Nat} {o:Oper} {l:List (Nat×List Nat)} (hi:ops[i]?=some o) (h:nj P G ops n t o=some t') (u:cG P G ops n l t' U Q):cG P G ops n ((i,[])::l) t U Q:=by
 unfold nj at h;split at h
 ·rename_i w hw;cases w with
  | true=>
   simp only[cond_true] at h;unfold Fq at h;split at h
   ·rename_i v hv;exact al hi hw (xV hv) h u
   cases h
  | false=>exact aw hi hw h u
 cases h
theorem wQ (k:Nat) {l l':List (Nat×List Nat)} {t t':PT V} (h:pL P G ops n k l t=some (l',t')) (u:cG P G ops n l' t' U Q):cG P G ops n l t U Q:=by
 induction k generalizing l t with
 | zero=>simp only[pL,oJ_,Prod.mk.injEq] at h;obtain⟨rfl,rfl⟩:=h;exact u
 | succ k ih=>
  unfold pL at h;split at h
  ·split at h
   ·rename_i o z;split at h
    ·rename_i t1 h1;exact tP z h1<|ih h
    cases h
   cases h
  cases h
section
variable {ev:Operand->Option V} {K:H} {L:Own}
theorem RD (k:Nat) {s:TypeId} {x:Operand} {i:Nat} {b:Pos} {off:Nat} (hx:ev x=some (.ptr b off)) (hk:ow P s i=some k:=by kernel_rfl):dX P G ev U (.fieldAddr s x i)= .val (.ptr b (off+k)) U:=ax hx hk
theorem RC {c:Call} {f:Operand} {g:Nat} {fi ca args:List V} (hc:c.callee= .value f) (hf:ev f=some (.func g fi ca)) (u:uw ev c.args.toList=some args) (z:AZ P g=true:=by kernel_rfl):dX P G ev U (.call c)= .enter g (fi++(args++ca)) U:=aQ hc hf u z
theorem RE {t:TypeId} {x:Operand} {b:Pos} {off:Nat} {cells:List V} {e:Nat} {ro:Bool} {v:V} (hx:ev x=some (.ptr b off)) (hb:U.m.get b=some (.row cells e ro)) (hv:nth cells off=some v) (u:dO P t=some none:=by kernel_rfl):dX P G ev U (.load t x)= .val v U:=ay hx hb u hv
theorem RF {t:TypeId} {x:Operand} {b:Pos} {off n:Nat} {cells:List V} {e:Nat} {ro:Bool} {vs:List V} (hx:ev x=some (.ptr b off)) (hb:U.m.get b=some (.row cells e ro)) (hv:(cells.drop off).take n=vs) (u:dO P t=some (some n):=by kernel_rfl) (hl:off+n<=cells.length:=by exact Nat.le_of_ble_eq_true Z):dX P G ev U (.load t x)= .val (.agg vs) U:=aP hx hb u hl hv
theorem RK {t:TypeId} {m:Nat} {x y:Operand} {b:Pos} {off:Nat} {v:V} {cs cells cells':List V} {e:Nat} (hx:ev x=some (.ptr b off)) (hy:ev y=some v) (hc:cW v=some cs) (hb:U.m.get b=some (.row cells e false)) (hl:cs.length=m) (u:cF cs=true) (z:dI cs cells off=cells')
  (hj:(P.info? t).map (·.size)=some m:=by kernel_rfl) (hle:off+m<=cells.length:=by exact Nat.le_of_ble_eq_true Z):dX P G ev U (.store t x y)= .skip (U.setObj b (.row cells' e false)):=aJ hx hy hc hb hj hl hle u z
theorem RB {t:TypeId} {parts:Array (Nat×Operand)} {places:List (Nat×Nat)} {zero cs:List V} (hf:kL (nth places) ev parts.toList zero=some cs) (hp:placesOf P t=some places:=by kernel_rfl) (u:(fJ P t).bind cW=some zero:=by kernel_rfl) (hu:dO P t=some (some zero.length):=by kernel_rfl) (z:(structOf P t).isSome=true:=by kernel_rfl):dX P G ev U (.build t parts)= .val (.agg cs) U:=bE hp u hu hf z
theorem RH {e:TypeId} {cs:List V} (u:(fJ P e).bind cW=some cs:=by kernel_rfl) (z:tN P e=false:=by kernel_rfl):dX P G ev U (.alloc e)= .val (.ptr U.next 0) (U.alloc (.row cs e false)):=cg u z
theorem RG {α:Type} {m:Nat} {R:α->List V->Prop} {l:List α} {c:Call} {t e:TypeId} {x:Operand} {v:V} (u:bJ K m R l v) (hc:c.callee= .builtin .len) (z:c.argTypes[0]?=some t) (A:c.args.toList= [x]) (hx:ev x=some v) (hu:P.underlying t=some (.slice e):=by kernel_rfl):dX P G ev U (.call c)= .val (.int .i64 (.ofNat l.length)) U:=aW u hc z A hu hx
theorem RI {t:TypeId} {x:Operand} {p v:V} {vs:List V} (u:J U K L) (hp:il K p vs) (hx:ev x=some p) (hv:vs[0]?=some v) (z:dO P t=some none:=by kernel_rfl):dX P G ev U (.load t x)= .val v U:=aV u hp hx z hv
theorem Rx {n:Nat} {t:PT V} {o:Oper} {l:List Oper} {α:Type} {m:Nat} {R:α->List V->Prop} {la:List α} {v:V} {i:Nat} {x:α} {ty e:TypeId} {xo io:Operand} {k:IntKind} {t':V->PT V} (z:bJ K m R la v) (hi:la[i]?=some x) (hw:bS ops t o=some true) (A:o.op= .indexAddr ty xo io)
  (hx:bI G t xo=some v) (u:bI G t io=some (.int k (.ofNat i)))
  (h:∀p vs,il K p vs->vs.length=m->R x vs->bV P G ops n l (t' p) U Q) (C:P.underlying ty=some (.slice e):=by kernel_rfl) (hj:(P.info? e).map (·.size)=some m:=by kernel_rfl) (hp:∀p,dG t n o.dst p=some (t' p):=by exact fun _=>Z):bV P G ops n (o::l) t U Q:=bX z hi hw A C hj hx u hp h
theorem Ry {n i:Nat} {t:PT V} {o:Oper} {l:List (Nat×List Nat)} {α:Type} {m:Nat} {R:α->List V->Prop} {la:List α} {v:V} {ix:Nat} {x:α} {ty e:TypeId} {xo io:Operand} {k:IntKind} {t':V->PT V} (A:bJ K m R la v) (hi:la[ix]?=some x) (u:ops[i]?=some o) (hw:bS ops t o=some true) (C:o.op= .indexAddr ty xo io)
  (hx:bI G t xo=some v) (z:bI G t io=some (.int k (.ofNat ix)))
  (h:∀p vs,il K p vs->vs.length=m->R x vs->cG P G ops n l (t' p) U Q) (E:P.underlying ty=some (.slice e):=by kernel_rfl) (hj:(P.info? e).map (·.size)=some m:=by kernel_rfl) (hp:∀p,dG t n o.dst p=some (t' p):=by exact fun _=>Z):cG P G ops n ((i,[])::l) t U Q:=cK A hi u hw C E hj hx z hp h
end
theorem aZ.Qp {W:List Nat} {t t':PT V} {a b c d e f g i a' b' c' d' e' f' g' i':Nat} (hw:(Nat.blt a 256 && (Nat.blt b 256 && (Nat.blt c 256 && Nat.blt d 256)))=true) (u:(Nat.blt e 256 && (Nat.blt f 256 && (Nat.blt g 256 && Nat.blt i 256)))=true) (z:(Nat.blt a' 256 && (Nat.blt b' 256 && (Nat.blt c' 256 && Nat.blt d' 256)))=true) (A:(Nat.blt e' 256 && (Nat.blt f' 256 && (Nat.blt g' 256 && Nat.blt i' 256)))=true) (h:aZ (a::b::c::d::e::f::g::i::a'::b'::c'::d'::e'::f'::g'::i'::W) t t'):
  ∃C E F M R X o7 o8 u1 u2 u3 u4 u5 u6 u7 u8,aZ W ((((((((((((((((t.put C a).put E b).put F c).put M d).put R e).put X f).put o7 g).put o8 i).put u1 a').put u2 b').put u3 c').put u4 d').put u5 e').put u6 f').put u7 g').put u8 i') t':=by
 obtain⟨C,E,F,M,R,X,o7,o8,h⟩:=h.cm hw u;obtain⟨u1,u2,u3,u4,u5,u6,u7,u8,h⟩:=h.cm z A;exact⟨C,E,F,M,R,X,o7,o8,u1,u2,u3,u4,u5,u6,u7,u8,h⟩
theorem lb {a b:Nat} (h:Nat.ble a b=true):a<=b:=Nat.le_of_ble_eq_true h
theorem nT {b:Code} {t:PT V} {Q:Ex->PT V->I->Prop} (h:Ev P G b n t U Q):bV P G ops n [] t U (cP P G n b Q):=af (ad h)
theorem nS {id:Nat} {os:Array Oper} {b:Code} {t:PT V} {Q:Ex->PT V->I->Prop} (u:mW os.toList=false) (h:bV P G os n os.toList t U (cP P G n b Q)):bV P G ops n [] t U (cP P G n (.seq (.region id os false) b) Q):=af (ad<|ak<|ai u h)
theorem RJ {K:H} {L:Own} {ev:Operand->Option V} {t:TypeId} {x:Operand} {p:V} {vs:List V} {n:Nat} (u:J U K L) (hp:il K p vs) (hx:ev x=some p) (hv:vs.length=n) (z:dO P t=some (some n):=by kernel_rfl):dX P G ev U (.load t x)= .val (.agg vs) U:=bQ u hp hx z hv
theorem kv {K:H} {L:Own} {n:Nat} {t:PT V} {o:Oper} {l:List Oper} {f:Nat} {args:List V} {u:V} {t':V->PT V} (hw:bS ops t o=some true) (hv:dX P G (bI G t) U o.op= .enter f args U)
  (hc:bm P G f args U fun v U'=>v=u/\J U' K L) (h:∀U',J U' K L->bV P G ops n l (t' u) U' Q) (hp:∀v,dG t n o.dst v=some (t' v):=by exact fun _=>Z):bV P G ops n (o::l) t U Q:=bj hw hv hp hc h
theorem kp {K:H} {L:Own} {n:Nat} {t:PT V} {o:Oper} {l:List Oper} (u:J U K L) {ob:cM} {t':Nat->PT V} (hw:bS ops t o=some true) (hv:dX P G (bI G t) U o.op= .val (.ptr U.next 0) (U.alloc ob))
  (h:∀(U':I) (b:Nat),J U' K ((b,ob)::L)->bV P G ops n l (t' b) U' Q) (hp:∀b,dG t n o.dst (.ptr b 0)=some (t' b):=by exact fun _=>Z):bV P G ops n (o::l) t U Q:=bC u hw hv hp h
abbrev T:V:=.int .i64 0
theorem oP {W:List Nat} {t t':PT V} {w:Nat} {o:Option V} (hw:(W.elem w && Nat.blt w 256)=true) (h:aZ W t t'):aZ W t (t'.put o w):=h.put hw
theorem oR (W:List Nat) (t:PT V):aZ W t t:=.refl W t
theorem ct {α:Type} (a b:α):(bif true then a else b)=a:=rfl
theorem cf {α:Type} (a b:α):(bif false then a else b)=b:=rfl
theorem cI {a b:Int} (h:a=b):some (V.int .i64 a)=some (V.int .i64 b):=congrArg (fun z=>some (V.int .i64 z)) h
theorem cB {a b:Bool} (h:a=b):V.bool a=V.bool b:=congrArg V.bool h
theorem cJ {a b:Int} (h:a=b):V.int .i64 a=V.int .i64 b:=congrArg (V.int .i64) h
theorem J.g0 {K:H} {L:Own} {b:Nat} {o:cM} (h:J U K ((b,o)::L)):U.m.get b=some o:=h.get 0 Z
theorem J.g1 {K:H} {L:Own} {e:Nat×cM} {b:Nat} {o:cM} (h:J U K (e::(b,o)::L)):U.m.get b=some o:=h.get 1 Z
theorem ky {n:Nat} {t:PT V} {o:Oper} {l:List Oper} {c:Bool} {t':Bool->PT V} (hw:bS ops t o=some true) (hv:dX P G (bI G t) U o.op= .val (.bool c) U)
  (h1:c=true->bV P G ops n l (t' true) U Q) (h0:c=false->bV P G ops n l (t' false) U Q) (hp:∀b,dG t n o.dst (.bool b)=some (t' b):=by exact fun _=>Z):bV P G ops n (o::l) t U Q:=aN hw hv hp h1 h0
end
section
variable {P:Program} {G:Cx} {n:Nat} {t:PT V} {U:I} {Q:Ex->PT V->I->Prop}
def Qk (W:List Nat) (t:PT V) (I_:PT V->I->Prop) (e:Ex) (t':PT V) (U':I):Prop:=e= .normal/\aZ W t t'/\I_ t' U'
theorem jA {a b:Code} (W:List Nat) (I_:PT V->I->Prop) (h1:Ev P G a n t U (Qk W t I_)) (u:∀t' U',aZ W t t'->I_ t' U'->Ev P G b n t' U' Q):Ev P G (.seq a b) n t U Q:=
 ak (h1.mono fun e t' U' h=>by obtain⟨rfl,z,h4⟩:=h;exact u t' U' z h4)
end
end Go.Ev
namespace Go.Ev
variable [Env]
set_option maxRecDepth 4000
section
variable {P:Program} {G:Cx} {n:Nat} {U:I} {Q:Ex->PT V->I->Prop}
inductive Cf where
 | ops (os:Array Oper) (l:List Oper)
 | j1 (os:Array Oper) (l:List (Nat×List Nat))
 | code (c:Code)
 | out (e:Ex)
inductive Fm where
 | seq (b:Code)
 | dJ (id:Nat)
 | PR (I_:Nat->PT V->I->Prop) (j:Nat)
def QS (P:Program) (G:Cx) (n:Nat) (Q:Ex->PT V->I->Prop):List Fm->Ex->PT V->I->Prop
 | []=>Q
 | .seq b::r=>cP P G n b (QS P G n Q r)
 | .dJ id::r=>iP id (QS P G n Q r)
 | .PR I_ j::r=>xR I_ j (QS P G n Q r)
def At (P:Program) (G:Cx) (n:Nat) (U:I) (Q:Ex->PT V->I->Prop) (c:Cf) (fs:List Fm) (t:PT V):Prop:=
 match c with
 | .ops os l=>bV P G os n l t U (QS P G n Q fs)
 | .j1 os l=>cG P G os n l t U (QS P G n Q fs)
 | .code c=>Ev P G c n t U (QS P G n Q fs)
 | .out e=>QS P G n Q fs e t U
def FC (P:Program) (G:Cx) (n:Nat) (c:Code) (fs:List Fm) (t:PT V):Option (Cf×List Fm×PT V):=
 match c with
 | .seq a b=>some (.code a,.seq b::fs,t)
 | .region _ os false=>bif mW os.toList then none else some (.ops os os.toList,fs,t)
 | .cond x a b=>match bI G t x with
  | some (.bool true)=>some (.code a,fs,t)
  | some (.bool false)=>some (.code b,fs,t)
  | _=>none
 | .block id b=>some (.code b,.dJ id::fs,t)
 | .skip=>some (.out .normal,fs,t)
 | .label _=>some (.out .normal,fs,t)
 | .exit id=>some (.out (.exit id),fs,t)
 | .ret=>some (.out .ret,fs,t)
 | _=>none
def BD (P:Program) (G:Cx) (n:Nat) (c:Cf) (fs:List Fm) (t:PT V):Option (Cf×List Fm×PT V):=
 match c with
 | .ops _ []=>some (.out .normal,fs,t)
 | .ops os (o::l)=>match nj P G os n t o with
  | some t'=>some (.ops os l,fs,t')
  | none=>none
 | .j1 _ []=>some (.out .normal,fs,t)
 | .j1 os ((i,[])::l)=>match os[i]? with
  | some o=>match nj P G os n t o with
   | some t'=>some (.j1 os l,fs,t')
   | none=>none
  | none=>none
 | .j1 _ ((_,_::_)::_)=>none
 | .code c=>FC P G n c fs t
 | .out .normal=>match fs with
  | .seq b::r=>some (.code b,r,t)
  | .dJ _::r=>some (.out .normal,r,t)
  | _=>none
 | .out (.exit j)=>match fs with
  | .seq _::r=>some (.out (.exit j),r,t)
  | .dJ id::r=>bif Nat.beq j id then some (.out .normal,r,t) else some (.out (.exit j),r,t)
  | .PR _ _::r=>some (.out (.exit j),r,t)
  | []=>none
 | .out .ret=>match fs with
  | .seq _::r=>some (.out .ret,r,t)
  | .dJ _::r=>some (.out .ret,r,t)
  | .PR _ _::r=>some (.out .ret,r,t)
  | []=>none
 | .out _=>none
theorem Ir {c:Code} {c':Cf} {fs fs':List Fm} {t t':PT V} (h:FC P G n c fs t=some (c',fs',t')) (u:At P G n U Q c' fs' t'):Ev P G c n t U (QS P G n Q fs):=by
 unfold FC at h;split at h
 ·cases h;exact ak u
 ·rename_i os;cases z:mW os.toList with
  | true=>rw[z] at h;cases h
  | false=>rw[z] at h;cases h;exact ai z u
 ·split at h
  ·rename_i hx;cases h;exact aH hx u
  ·rename_i hx;cases h;exact aL hx u
  cases h
 ·cases h;exact aO u
 ·cases h;exact aG u
 ·cases h;exact Jx u
 ·cases h;exact bu u
 ·cases h;exact aC u
 cases h
theorem Ah {c c':Cf} {fs fs':List Fm} {t t':PT V} (h:BD P G n c fs t=some (c',fs',t')) (u:At P G n U Q c' fs' t'):At P G n U Q c fs t:=by
 unfold BD at h;split at h
 ·cases h;exact af u
 ·split at h
  ·rename_i z;cases h;exact tQ z u
  cases h
 ·cases h;exact aY u
 ·split at h
  ·rename_i A;split at h
   ·rename_i z;cases h;exact tP A z u
   cases h
  cases h
 ·cases h
 ·exact Ir h u
 ·split at h
  ·cases h;exact u
  ·cases h;exact u
  cases h
 ·rename_i j;split at h
  ·cases h;exact u
  ·rename_i id r;cases hj:Nat.beq j id with
   | true=>
    rw[hj] at h;cases h;have:=nB hj;subst this;exact aU u
   | false=>rw[hj] at h;cases h;exact mb hj u
  ·cases h;exact u
  cases h
 ·split at h
  ·cases h;exact u
  ·cases h;exact u
  ·cases h;exact u
  cases h
 cases h
def iu (P:Program) (G:Cx) (n:Nat):Nat->Cf->List Fm->PT V->Option (Cf×List Fm×PT V)
 | 0,c,fs,t=>some (c,fs,t)
 | k+1,c,fs,t=>match BD P G n c fs t with
  | some (c',fs',t')=>iu P G n k c' fs' t'
  | none=>none
theorem dv:∀(k:Nat) {c c':Cf} {fs fs':List Fm} {t t':PT V},iu P G n k c fs t=some (c',fs',t')->At P G n U Q c' fs' t'->At P G n U Q c fs t
 | 0,_,_,_,_,_,_,h,u=>by cases h;exact u
 | k+1,_,_,_,_,_,_,h,u=>by
  unfold iu at h;split at h
  ·rename_i z;exact Ah z<|dv k h u
  cases h
inductive Cd where
 | fa (s i k:Nat)
 | ag (t:Nat)
def kf (P:Program):List Cd->Bool
 | []=>true
 | .fa s i k::r=>match ow P s i with
  | some q=>bif Nat.beq q k then kf P r else false
  | none=>false
 | .ag t::r=>match dO P t with
  | some none=>kf P r
  | _=>false
def Pb (P:Program) (G:Cx) (n:Nat) (os:Array Oper) (t:PT V) (o:Oper) (s i k:Nat) (x:Operand):Option (PT V):=
 match bS os t o with
 | some true=>match bI G t x with
  | some (.ptr b off)=>dG t n o.dst (.ptr b (off+k))
  | _=>none
 | _=>none
def Pj (P:Program) (G:Cx) (n:Nat) (os:Array Oper) (t:PT V) (o:Oper) (x:Operand) (b':Nat) (cells:List V):Option (PT V×Nat):=
 match bS os t o with
 | some true=>match bI G t x with
  | some (.ptr b off)=>match nth cells off with
   | some v=>match dG t n o.dst v with
    | some t'=>some (t',b)
    | none=>none
   | none=>none
  | _=>none
 | _=>none
def PS (P:Program) (G:Cx) (n:Nat) (L:Own) (os:Array Oper) (t:PT V) (o:Oper) (hs:List Nat) (cs:List Cd) (e1 e2:List Nat):Option (PT V×List Nat×List Cd×List Nat×List Nat):=
 match o.op,hs with
 | .fieldAddr s x i,k::hs=>match Pb P G n os t o s i k x with
  | some t'=>some (t',hs,.fa s i k::cs,e1,e2)
  | none=>none
 | .load ty x,k::hs=>match nth L k with
  | some (b',.row cells _ _)=>match Pj P G n os t o x b' cells with
   | some (t',b)=>some (t',hs,.ag ty::cs,b::e1,b'::e2)
   | none=>none
  | _=>none
 | _,_=>none
def Rr (o:Oper):Bool:=match o.op with
 | .fieldAddr ..=>true
 | .load ..=>true
 | _=>false
def QY (os:Array Oper) (t:PT V) (o:Oper):Bool:=match bS os t o with
 | some true=>Rr o
 | _=>false
def Pc (c:Cf) (t:PT V):Bool:=match c with
 | .ops os (o::_)=>QY os t o
 | .j1 os ((i,[])::_)=>match os[i]? with
  | some o=>QY os t o
  | none=>false
 | _=>false
def KB (P:Program) (G:Cx) (n:Nat) (L:Own) (c:Cf) (t:PT V) (hs:List Nat) (cs:List Cd) (e1 e2:List Nat):Option (Cf×PT V×List Nat×List Cd×List Nat×List Nat):=
 match c with
 | .ops os (o::l)=>match PS P G n L os t o hs cs e1 e2 with
  | some (t',hs,cs,e1,e2)=>some (.ops os l,t',hs,cs,e1,e2)
  | none=>none
 | .j1 os ((i,[])::l)=>match os[i]? with
  | some o=>match PS P G n L os t o hs cs e1 e2 with
   | some (t',hs,cs,e1,e2)=>some (.j1 os l,t',hs,cs,e1,e2)
   | none=>none
  | none=>none
 | _=>none
def pN (P:Program) (G:Cx) (n:Nat) (L:Own):Nat->Cf->List Fm->PT V->List Nat->List Cd->List Nat->List Nat->Option (Cf×List Fm×PT V×List Cd×List Nat×List Nat)
 | 0,c,fs,t,_,cs,e1,e2=>some (c,fs,t,cs,e1,e2)
 | k+1,c,fs,t,hs,cs,e1,e2=>match Pc c t with
  | true=>match KB P G n L c t hs cs e1 e2 with
   | some (c',t',hs',cs',e1',e2')=>pN P G n L k c' fs t' hs' cs' e1' e2'
   | none=>none
  | false=>match BD P G n c fs t with
   | some (c',fs',t')=>pN P G n L k c' fs' t' hs cs e1 e2
   | none=>none
theorem LH {s i k:Nat} {r:List Cd} (h:kf P (.fa s i k::r)=true):ow P s i=some k/\kf P r=true:=by
 unfold kf at h;split at h
 ·rename_i q hq;cases hk:Nat.beq q k with
  | true=>rw[hk] at h;exact⟨by rw[hq,nB hk],h⟩
  | false=>rw[hk] at h;cases h
 cases h
theorem LG {t:Nat} {r:List Cd} (h:kf P (.ag t::r)=true):dO P t=some none/\kf P r=true:=by
 unfold kf at h;split at h
 ·rename_i u;exact⟨u,h⟩
 cases h
theorem Kh {K:H} {L:Own} (aq:J U K L) {os:Array Oper} {t t':PT V} {o:Oper} {X A:List Nat} {cs cs':List Cd} {e1 M u z:List Nat} (h:PS P G n L os t o X cs e1 M=some (t',A,cs',u,z)) (hc:kf P cs'=true) (he:u=z):
  (kf P cs=true/\e1=M)/\bS os t o=some true/\∃v,dX P G (bI G t) U o.op= .val v U/\dG t n o.dst v=some t':=by
 unfold PS at h;split at h
 ·rename_i s x i k C E;split at h
  ·rename_i t1 hf;cases h;obtain⟨h1,F⟩:=LH hc;unfold Pb at hf;split at hf
   ·rename_i hw;split at hf
    ·rename_i b off hx;exact⟨⟨F,he⟩,hw,_,by rw[E];exact ax hx h1,hf⟩
    cases hf
   cases hf
  cases h
 ·rename_i ty x k C E;split at h
  ·rename_i b' cells ee ro R;split at h
   ·rename_i t1 b hf;cases h;obtain⟨h1,F⟩:=LG hc;have hb:b=b':=(List.cons.inj he).1;have he':=(List.cons.inj he).2;unfold Pj at hf;split at hf
    ·rename_i hw;split at hf
     ·rename_i b2 off hx;split at hf
      ·rename_i v hv;split at hf
       ·rename_i t2 hp;cases hf;subst hb;rw[eL] at R;exact⟨⟨F,he'⟩,hw,v,by rw[E];exact ay hx (aq.get k R) h1 hv,hp⟩
       cases hf
      cases hf
     cases hf
    cases hf
   cases h
  cases h
 cases h
theorem KC {K:H} {L:Own} (aq:J U K L) {c c':Cf} {fs:List Fm} {t t':PT V} {F A:List Nat} {cs cs':List Cd} {e1 C u z:List Nat} (h:KB P G n L c t F cs e1 C=some (c',t',A,cs',u,z)) (hk:kf P cs'=true) (he:u=z) (E:At P G n U Q c' fs t'):(kf P cs=true/\e1=C)/\At P G n U Q c fs t:=by
 unfold KB at h;split at h
 ·split at h
  ·rename_i hy;cases h;obtain⟨h1,hw,v,hv,hp⟩:=Kh aq hy hk he;exact⟨h1,O hw hv hp E⟩
  cases h
 ·split at h
  ·rename_i o M;split at h
   ·rename_i hy;cases h;obtain⟨h1,hw,v,hv,hp⟩:=Kh aq hy hk he;exact⟨h1,al M hw hv hp E⟩
   cases h
  cases h
 cases h
theorem gE {K:H} {L:Own} (aq:J U K L):∀(k:Nat) {c c':Cf} {fs fs':List Fm} {t t':PT V} {u:List Nat} {cs cs':List Cd} {e1 F z A:List Nat},pN P G n L k c fs t u cs e1 F=some (c',fs',t',cs',z,A)->kf P cs'=true->z=A->At P G n U Q c' fs' t'->(kf P cs=true/\e1=F)/\At P G n U Q c fs t
 | 0,_,_,_,_,_,_,_,_,_,_,_,_,_,h,hk,he,C=>by cases h;exact⟨⟨hk,he⟩,C⟩
 | k+1,_,_,_,_,_,_,_,_,_,_,_,_,_,h,hk,he,C=>by
  unfold pN at h;split at h
  ·split at h
   ·rename_i u;obtain⟨⟨h1,M⟩,E⟩:=gE aq k h hk he C;exact KC aq u h1 M E
   cases h
  split at h
  ·rename_i u;obtain⟨h1,E⟩:=gE aq k h hk he C;exact⟨h1,Ah u E⟩
  cases h
end
theorem aZ.Qo {W:List Nat} {t t':PT V} {w:Nat} (hw:Nat.blt w 256=true) (h:aZ (w::W) t t'):aZ W (t.put (t'.get w) w) t':=by
 rw[wh] at hw;obtain⟨h1,u,z⟩:=h;obtain⟨s,m,l⟩:=t;rw[PT.tK _ _ _ _ hw,PT.qy _ hw];refine⟨h1,u,fun k hk A=>?_⟩;show _=kH (qN s w _) k;rw[mT _ _ _ _ hw hk];split
 ·rename_i e;rw[e]
 rename_i e;refine z k hk ?_;rw[List.elem_cons,A];have:(k == w)=false:=by simpa using e
 rw[this]
def sn (o:Nat->Option V):PT V->List Nat->PT V
 | t,[]=>t
 | t,a::r=>sn o (t.put (o a) a) r
def zj (o:Nat->Option V):List (Nat×V)->Nat->Option V
 | [],a=>o a
 | (k,v)::r,a=>bif Nat.beq a k then some v else zj o r a
theorem Am {o:Nat->Option V}:∀{ks:List (Nat×V)},(∀e∈ks,o e.1=some e.2)->zj o ks=o
 | [],_=>rfl
 | (k,v)::r,h=>funext fun a=>by
  show(bif Nat.beq a k then some v else zj o r a)=o a;cases hb:Nat.beq a k with
  | true=>rw[nB hb];exact(h (k,v) (.head _)).symm
  | false=>rw[Am fun e he=>h e (.tail _ he)];rfl
def okW (W:List Nat):Bool:=W.all fun k=>Nat.blt k 256
theorem aZ.fn {t':PT V}:∀{W:List Nat} {t:PT V},okW W=true->aZ W t t'->t'=sn (fun k=>t'.get k) t W
 | [],_,_,h=>h.nil
 | a::r,t,hw,h=>by
  have hw:(Nat.blt a 256 && okW r)=true:=hw;rw[bA_] at hw;exact(aZ.fn (W:=r) hw.2 (h.Qo hw.1):)
section
variable {W:List Nat} {t t':PT V}
theorem aZ.qs {ks:List (Nat×V)} (h:aZ W t t') (hk:∀e∈ks,t'.get e.1=some e.2) (hw:okW W=true):∃o,t'=sn (zj o ks) t W:=
 ⟨fun k=>t'.get k,(aZ.fn hw h).trans<|congrArg (fun o=>sn o t W) (Am hk).symm⟩
variable {k1 k2 k3 k4 k5 k6:Nat} {v1 v2 v3 v4 v5 v6:V} (h:aZ W t t')
include h
theorem aZ.q0 (hw:okW W=true):∃o,t'=sn (zj o []) t W:=h.qs (ks:=[]) (fun e he=>by cases he) hw
theorem aZ.q1 (h1:t'.get k1=some v1) (hw:okW W=true):∃o,t'=sn (zj o [(k1,v1)]) t W:=h.qs (fun e he=>by simp at he;subst he;exact h1) hw
theorem aZ.q2 (h1:t'.get k1=some v1) (u:t'.get k2=some v2) (hw:okW W=true):∃o,t'=sn (zj o [(k1,v1),(k2,v2)]) t W:=h.qs (fun e he=>by simp at he;rcases he with rfl | rfl;exact h1;exact u) hw
theorem aZ.q3 (h1:t'.get k1=some v1) (u:t'.get k2=some v2) (z:t'.get k3=some v3) (hw:okW W=true):∃o,t'=sn (zj o [(k1,v1),(k2,v2),(k3,v3)]) t W:=h.qs (fun e he=>by simp at he;rcases he with rfl | rfl | rfl;exact h1;exact u;exact z) hw
theorem aZ.q4 (h1:t'.get k1=some v1) (u:t'.get k2=some v2) (z:t'.get k3=some v3) (h4:t'.get k4=some v4) (hw:okW W=true):∃o,t'=sn (zj o [(k1,v1),(k2,v2),(k3,v3),(k4,v4)]) t W:=h.qs (fun e he=>by simp at he;rcases he with rfl | rfl | rfl | rfl;exact h1;exact u;exact z;exact h4) hw
theorem aZ.q5 (h1:t'.get k1=some v1) (u:t'.get k2=some v2) (z:t'.get k3=some v3) (h4:t'.get k4=some v4) (h5:t'.get k5=some v5) (hw:okW W=true):∃o,t'=sn (zj o [(k1,v1),(k2,v2),(k3,v3),(k4,v4),(k5,v5)]) t W:=h.qs (fun e he=>by simp at he;rcases he with rfl | rfl | rfl | rfl | rfl;exact h1;exact u;exact z;exact h4;exact h5) hw
end
theorem oF {W:List Nat} {t t':PT V} (h:aZ W t t':=by repeat (first | with_reducible exact aZ.refl _ _ | refine aZ.put Z ?_)):aZ W t t':=h
def NJ (i:Nat) (t:PT V):List V->PT V
 | []=>t
 | a::r=>NJ (i+1) (t.put (some a) i) r
theorem QX {P:Program} {G:Cx} (u:Plain G) {f:Nat} {fn:Func} {c:Code} {args:List V} {U:I} {R:V->I->Prop} (hf:P.funcs[f]?=some fn) (hb:fn.body=some c) (h:Ev P G c fn.ntmps (NJ 0 .leaf args) U (AO P fn R))
  (z:r6 fn.ntmps args=some (NJ 0 .leaf args):=by rfl) (hk:Nat.beq f Mm=false:=by rfl) (hl:Fc f=false:=by rfl):bm P G f args U R:=bh u hf hb z h hk hl
def zp:List Nat->List (Nat×List Nat)
 | []=>[]
 | a::r=>(a,[])::zp r
def rg (a:Nat):Nat->List Nat
 | 0=>[]
 | n+1=>a::rg (a+1) n
end Go.Ev
namespace Go.Ev
variable [Env]
section
variable {P:Program} {G:Cx} {n:Nat} {U:I} {Q:Ex->PT V->I->Prop} {os os2:Array Oper} {l l2:List Oper} {lp lp2:List (Nat×List Nat)} {c c2:Code} {t t2:PT V} {K:H} {L:Own} {hs:List Nat} {cs:List Cd} {e1 e2:List Nat}
theorem PU {u:Code} {z:Nat} (k:Nat) (h:iu P G n k (.code c) [] t=some (.code c2,[.dJ z,.seq u],t2)) (A:Ev P G c2 n t2 U (iP z<|cP P G n u Q)):Ev P G c n t U Q:=(dv (Q:=Q) k h A:)
theorem Qz {u:Code} (k:Nat) (h:iu P G n k (.code c) [] t=some (.code c2,[.seq u],t2)) (z:Ev P G c2 n t2 U (cP P G n u Q)):Ev P G c n t U Q:=(dv (Q:=Q) k h z:)
theorem Q0 (k:Nat) (h:iu P G n k (.code c) [] t=some (.out .normal,[],t2)) (u:Q .normal t2 U):Ev P G c n t U Q:=(dv (Q:=Q) k h u:)
theorem QA {u:Code} (k:Nat) (h:iu P G n k (.code c) [] t=some (.ops os2 l2,[.seq u],t2)) (z:bV P G os2 n l2 t2 U (cP P G n u Q)):Ev P G c n t U Q:=(dv (Q:=Q) k h z:)
theorem PV {u z:Code} (k:Nat) (h:iu P G n k (.code c) [] t=some (.ops os2 l2,[.seq u,.seq z],t2)) (A:bV P G os2 n l2 t2 U (cP P G n u<|cP P G n z Q)):Ev P G c n t U Q:=(dv (Q:=Q) k h A:)
theorem Q1 (k:Nat) (h:iu P G n k (.code c) [] t=some (.out .ret,[],t2)) (u:Q .ret t2 U):Ev P G c n t U Q:=(dv (Q:=Q) k h u:)
theorem Pt {u:Code} {z:Code} {A:Nat} (k:Nat) (h:iu P G n k (.code c) [.seq u] t=some (.code c2,[.dJ A,.seq z],t2)) (C:Ev P G c2 n t2 U (iP A<|cP P G n z Q)):Ev P G c n t U (cP P G n u Q):=(dv (Q:=Q) k h C:)
theorem PW {u:Code} {z:Code} (k:Nat) (h:iu P G n k (.code c) [.seq u] t=some (.code c2,[.seq z],t2)) (A:Ev P G c2 n t2 U (cP P G n z Q)):Ev P G c n t U (cP P G n u Q):=(dv (Q:=Q) k h A:)
theorem OR {u:Code} {z A:Code} {C:Nat} (k:Nat) (h:iu P G n k (.code c) [.seq u] t=some (.code c2,[.seq z,.dJ C,.seq A],t2)) (E:Ev P G c2 n t2 U (cP P G n z<|iP C<|cP P G n A Q)):Ev P G c n t U (cP P G n u Q):=(dv (Q:=Q) k h E:)
theorem PX {u:Code} {z:Code} (k:Nat) (h:iu P G n k (.code c) [.seq u] t=some (.ops os2 l2,[.seq z],t2)) (A:bV P G os2 n l2 t2 U (cP P G n z Q)):Ev P G c n t U (cP P G n u Q):=(dv (Q:=Q) k h A:)
theorem OS {u:Code} {z A:Code} {C:Nat} (k:Nat) (h:iu P G n k (.code c) [.seq u] t=some (.ops os2 l2,[.seq z,.dJ C,.seq A],t2)) (E:bV P G os2 n l2 t2 U (cP P G n z<|iP C<|cP P G n A Q)):Ev P G c n t U (cP P G n u Q):=(dv (Q:=Q) k h E:)
theorem Pu {u:Code} {z A:Code} (k:Nat) (h:iu P G n k (.code c) [.seq u] t=some (.ops os2 l2,[.seq z,.seq A],t2)) (C:bV P G os2 n l2 t2 U (cP P G n z<|cP P G n A Q)):Ev P G c n t U (cP P G n u Q):=(dv (Q:=Q) k h C:)
theorem QB {u:Code} (k:Nat) (h:iu P G n k (.code c) [.seq u] t=some (.out .ret,[],t2)) (z:Q .ret t2 U):Ev P G c n t U (cP P G n u Q):=(dv (Q:=Q) k h z:)
theorem PY {u:Code} {z:Nat} {bI1:Nat->PT V->I->Prop} {j:Nat} (k:Nat) (h:iu P G n k (.code c) [.seq u,.PR bI1 z] t=some (.out (.exit j),[],t2)) (A:Q (.exit j) t2 U):Ev P G c n t U (cP P G n u<|xR bI1 z Q):=(dv (Q:=Q) k h A:)
theorem Q2 (k:Nat) (h:iu P G n k (.ops os l) [] t=some (.out .normal,[],t2)) (u:Q .normal t2 U):bV P G os n l t U Q:=(dv (Q:=Q) k h u:)
theorem Q3 (k:Nat) (h:iu P G n k (.ops os l) [] t=some (.ops os2 l2,[],t2)) (u:bV P G os2 n l2 t2 U Q):bV P G os n l t U Q:=(dv (Q:=Q) k h u:)
theorem QC {u:Code} (k:Nat) (h:iu P G n k (.ops os l) [.seq u] t=some (.code c2,[],t2)) (z:Ev P G c2 n t2 U Q):bV P G os n l t U (cP P G n u Q):=(dv (Q:=Q) k h z:)
theorem PZ {u:Code} {z:Nat} (k:Nat) (h:iu P G n k (.ops os l) [.seq u] t=some (.code c2,[.dJ z],t2)) (A:Ev P G c2 n t2 U (iP z Q)):bV P G os n l t U (cP P G n u Q):=(dv (Q:=Q) k h A:)
theorem Pv {u:Code} {z:Code} {A:Nat} (k:Nat) (h:iu P G n k (.ops os l) [.seq u] t=some (.code c2,[.dJ A,.seq z],t2)) (C:Ev P G c2 n t2 U (iP A<|cP P G n z Q)):bV P G os n l t U (cP P G n u Q):=(dv (Q:=Q) k h C:)
theorem P0 {u:Code} {z:Code} (k:Nat) (h:iu P G n k (.ops os l) [.seq u] t=some (.code c2,[.seq z],t2)) (A:Ev P G c2 n t2 U (cP P G n z Q)):bV P G os n l t U (cP P G n u Q):=(dv (Q:=Q) k h A:)
theorem QD {u:Code} (k:Nat) (h:iu P G n k (.ops os l) [.seq u] t=some (.ops os2 l2,[],t2)) (z:bV P G os2 n l2 t2 U Q):bV P G os n l t U (cP P G n u Q):=(dv (Q:=Q) k h z:)
theorem P1 {u:Code} {z:Code} (k:Nat) (h:iu P G n k (.ops os l) [.seq u] t=some (.ops os2 l2,[.seq z],t2)) (A:bV P G os2 n l2 t2 U (cP P G n z Q)):bV P G os n l t U (cP P G n u Q):=(dv (Q:=Q) k h A:)
theorem OT {u:Code} {z A:Code} {C:Nat} (k:Nat) (h:iu P G n k (.ops os l) [.seq u] t=some (.ops os2 l2,[.seq z,.dJ C,.seq A],t2)) (E:bV P G os2 n l2 t2 U (cP P G n z<|iP C<|cP P G n A Q)):bV P G os n l t U (cP P G n u Q):=(dv (Q:=Q) k h E:)
theorem Pw {u:Code} {z A:Code} (k:Nat) (h:iu P G n k (.ops os l) [.seq u] t=some (.ops os2 l2,[.seq z,.seq A],t2)) (C:bV P G os2 n l2 t2 U (cP P G n z<|cP P G n A Q)):bV P G os n l t U (cP P G n u Q):=(dv (Q:=Q) k h C:)
theorem QE {u:Code} (k:Nat) (h:iu P G n k (.ops os l) [.seq u] t=some (.out .ret,[],t2)) (z:Q .ret t2 U):bV P G os n l t U (cP P G n u Q):=(dv (Q:=Q) k h z:)
theorem P2 {u:Code} {z:Nat} (k:Nat) (h:iu P G n k (.ops os l) [.seq u,.dJ z] t=some (.out .normal,[],t2)) (A:Q .normal t2 U):bV P G os n l t U (cP P G n u<|iP z Q):=(dv (Q:=Q) k h A:)
theorem Px {u z:Code} {A:Code} (k:Nat) (h:iu P G n k (.ops os l) [.seq u,.seq z] t=some (.ops os2 l2,[.seq A],t2)) (C:bV P G os2 n l2 t2 U (cP P G n A Q)):bV P G os n l t U (cP P G n u<|cP P G n z Q):=(dv (Q:=Q) k h C:)
theorem P3 {u z:Code} (k:Nat) (h:iu P G n k (.ops os l) [.seq u,.seq z] t=some (.out .ret,[],t2)) (A:Q .ret t2 U):bV P G os n l t U (cP P G n u<|cP P G n z Q):=(dv (Q:=Q) k h A:)
theorem P4 {u z:Code} {j:Nat} (k:Nat) (h:iu P G n k (.ops os l) [.seq u,.seq z] t=some (.out (.exit j),[],t2)) (A:Q (.exit j) t2 U):bV P G os n l t U (cP P G n u<|cP P G n z Q):=(dv (Q:=Q) k h A:)
theorem Q4 (k:Nat) (h:iu P G n k (.j1 os lp) [] t=some (.out .normal,[],t2)) (u:Q .normal t2 U):cG P G os n lp t U Q:=(dv (Q:=Q) k h u:)
theorem Q5 (k:Nat) (h:iu P G n k (.j1 os lp) [] t=some (.j1 os2 lp2,[],t2)) (u:cG P G os2 n lp2 t2 U Q):cG P G os n lp t U Q:=(dv (Q:=Q) k h u:)
theorem QF {u:Code} (k:Nat) (h:iu P G n k (.j1 os lp) [.seq u] t=some (.code c2,[],t2)) (z:Ev P G c2 n t2 U Q):cG P G os n lp t U (cP P G n u Q):=(dv (Q:=Q) k h z:)
theorem P5 {u:Code} {z:Code} (k:Nat) (h:iu P G n k (.j1 os lp) [.seq u] t=some (.code c2,[.seq z],t2)) (A:Ev P G c2 n t2 U (cP P G n z Q)):cG P G os n lp t U (cP P G n u Q):=(dv (Q:=Q) k h A:)
theorem QG {u:Code} (k:Nat) (h:iu P G n k (.j1 os lp) [.seq u] t=some (.out .ret,[],t2)) (z:Q .ret t2 U):cG P G os n lp t U (cP P G n u Q):=(dv (Q:=Q) k h z:)
theorem P6 {u z:Code} (k:Nat) (h:iu P G n k (.j1 os lp) [.seq u,.seq z] t=some (.out .ret,[],t2)) (A:Q .ret t2 U):cG P G os n lp t U (cP P G n u<|cP P G n z Q):=(dv (Q:=Q) k h A:)
theorem Q6 (aq:J U K L) (k:Nat) (hi:List Nat) (h:pN P G n L k (.code c) [] t hi [] [] []=some (.ops os2 l2,[],t2,cs,e1,e2)) (he:e1=e2) (u:bV P G os2 n l2 t2 U Q) (hc:kf P cs=true:=by kernel_rfl):Ev P G c n t U Q:=((gE (Q:=Q) aq k h hc he u).2:)
theorem QH {u:Code} (aq:J U K L) (k:Nat) (hi:List Nat) (h:pN P G n L k (.code c) [] t hi [] [] []=some (.ops os2 l2,[.seq u],t2,cs,e1,e2)) (he:e1=e2) (z:bV P G os2 n l2 t2 U (cP P G n u Q)) (hc:kf P cs=true:=by kernel_rfl):Ev P G c n t U Q:=((gE (Q:=Q) aq k h hc he z).2:)
theorem P7 {u z:Code} (aq:J U K L) (k:Nat) (hi:List Nat) (h:pN P G n L k (.code c) [] t hi [] [] []=some (.ops os2 l2,[.seq u,.seq z],t2,cs,e1,e2)) (he:e1=e2) (A:bV P G os2 n l2 t2 U (cP P G n u<|cP P G n z Q)) (hc:kf P cs=true:=by kernel_rfl):Ev P G c n t U Q:=((gE (Q:=Q) aq k h hc he A).2:)
theorem P8 {u:Code} {z:Code} (aq:J U K L) (k:Nat) (hi:List Nat) (h:pN P G n L k (.code c) [.seq u] t hi [] [] []=some (.ops os2 l2,[.seq z],t2,cs,e1,e2)) (he:e1=e2) (A:bV P G os2 n l2 t2 U (cP P G n z Q)) (hc:kf P cs=true:=by kernel_rfl):Ev P G c n t U (cP P G n u Q):=((gE (Q:=Q) aq k h hc he A).2:)
theorem OU {u:Code} {z A:Code} {C:Nat} (aq:J U K L) (k:Nat) (hi:List Nat) (h:pN P G n L k (.code c) [.seq u] t hi [] [] []=some (.ops os2 l2,[.seq z,.dJ C,.seq A],t2,cs,e1,e2)) (he:e1=e2) (E:bV P G os2 n l2 t2 U (cP P G n z<|iP C<|cP P G n A Q)) (hc:kf P cs=true:=by kernel_rfl):Ev P G c n t U (cP P G n u Q):=((gE (Q:=Q) aq k h hc he E).2:)
theorem Py {u:Code} {z A:Code} (aq:J U K L) (k:Nat) (hi:List Nat) (h:pN P G n L k (.code c) [.seq u] t hi [] [] []=some (.ops os2 l2,[.seq z,.seq A],t2,cs,e1,e2)) (he:e1=e2) (C:bV P G os2 n l2 t2 U (cP P G n z<|cP P G n A Q)) (hc:kf P cs=true:=by kernel_rfl):Ev P G c n t U (cP P G n u Q):=((gE (Q:=Q) aq k h hc he C).2:)
theorem QI {u:Code} (aq:J U K L) (k:Nat) (hi:List Nat) (h:pN P G n L k (.code c) [.seq u] t hi [] [] []=some (.out .ret,[],t2,cs,e1,e2)) (he:e1=e2) (z:Q .ret t2 U) (hc:kf P cs=true:=by kernel_rfl):Ev P G c n t U (cP P G n u Q):=((gE (Q:=Q) aq k h hc he z).2:)
theorem Q7 (aq:J U K L) (k:Nat) (hi:List Nat) (h:pN P G n L k (.ops os l) [] t hi [] [] []=some (.ops os2 l2,[],t2,cs,e1,e2)) (he:e1=e2) (u:bV P G os2 n l2 t2 U Q) (hc:kf P cs=true:=by kernel_rfl):bV P G os n l t U Q:=((gE (Q:=Q) aq k h hc he u).2:)
theorem QJ {u:Code} (aq:J U K L) (k:Nat) (hi:List Nat) (h:pN P G n L k (.ops os l) [.seq u] t hi [] [] []=some (.code c2,[],t2,cs,e1,e2)) (he:e1=e2) (z:Ev P G c2 n t2 U Q) (hc:kf P cs=true:=by kernel_rfl):bV P G os n l t U (cP P G n u Q):=((gE (Q:=Q) aq k h hc he z).2:)
theorem P9 {u:Code} {z:Code} (aq:J U K L) (k:Nat) (hi:List Nat) (h:pN P G n L k (.ops os l) [.seq u] t hi [] [] []=some (.code c2,[.seq z],t2,cs,e1,e2)) (he:e1=e2) (A:Ev P G c2 n t2 U (cP P G n z Q)) (hc:kf P cs=true:=by kernel_rfl):bV P G os n l t U (cP P G n u Q):=((gE (Q:=Q) aq k h hc he A).2:)
theorem QK {u:Code} (aq:J U K L) (k:Nat) (hi:List Nat) (h:pN P G n L k (.ops os l) [.seq u] t hi [] [] []=some (.ops os2 l2,[],t2,cs,e1,e2)) (he:e1=e2) (z:bV P G os2 n l2 t2 U Q) (hc:kf P cs=true:=by kernel_rfl):bV P G os n l t U (cP P G n u Q):=((gE (Q:=Q) aq k h hc he z).2:)
theorem Qa {u:Code} {z:Code} (aq:J U K L) (k:Nat) (hi:List Nat) (h:pN P G n L k (.ops os l) [.seq u] t hi [] [] []=some (.ops os2 l2,[.seq z],t2,cs,e1,e2)) (he:e1=e2) (A:bV P G os2 n l2 t2 U (cP P G n z Q)) (hc:kf P cs=true:=by kernel_rfl):bV P G os n l t U (cP P G n u Q):=((gE (Q:=Q) aq k h hc he A).2:)
theorem Pz {u:Code} {z A:Code} (aq:J U K L) (k:Nat) (hi:List Nat) (h:pN P G n L k (.ops os l) [.seq u] t hi [] [] []=some (.ops os2 l2,[.seq z,.seq A],t2,cs,e1,e2)) (he:e1=e2) (C:bV P G os2 n l2 t2 U (cP P G n z<|cP P G n A Q)) (hc:kf P cs=true:=by kernel_rfl):bV P G os n l t U (cP P G n u Q):=((gE (Q:=Q) aq k h hc he C).2:)
theorem QL {u:Code} (aq:J U K L) (k:Nat) (hi:List Nat) (h:pN P G n L k (.ops os l) [.seq u] t hi [] [] []=some (.out .ret,[],t2,cs,e1,e2)) (he:e1=e2) (z:Q .ret t2 U) (hc:kf P cs=true:=by kernel_rfl):bV P G os n l t U (cP P G n u Q):=((gE (Q:=Q) aq k h hc he z).2:)
theorem Q8 (aq:J U K L) (k:Nat) (hi:List Nat) (h:pN P G n L k (.j1 os lp) [] t hi [] [] []=some (.j1 os2 lp2,[],t2,cs,e1,e2)) (he:e1=e2) (u:cG P G os2 n lp2 t2 U Q) (hc:kf P cs=true:=by kernel_rfl):cG P G os n lp t U Q:=((gE (Q:=Q) aq k h hc he u).2:)
end
inductive XE where
 | mk (op num:Int) (name:List Nat) (kids:List XE)
structure XI where
 kind:Int
 qd:Int
 loc:Int
 order:Int
 to:Int
 exprs:List XE
structure XC where
 bc:Int
 ins:List XI
def eE (K:H):Nat->XE->List V->Prop
 | 0,_,_=>False
 | k+1,.mk op num name kids,vs=>∃v,vs= [.int .i64 op,.int .i64 num,.str name,v]/\bJ K 4 (eE K k) kids v
def gp (K:H) (k:Nat) (x:XI) (vs:List V):Prop:=∃v,vs= [.int .i64 x.kind,.int .i64 x.qd,.int .i64 x.loc,.int .i64 x.order,.int .i64 x.to,v]/\bJ K 4 (eE K k) x.exprs v
def jc (K:H) (k:Nat) (x:XC) (vs:List V):Prop:=∃v,vs= [.int .i64 x.bc,v]/\bJ K 6 (gp K k) x.ins v
def XE.kids:XE->List XE
 | .mk _ _ _ k=>k
theorem eE.shape {K:H} {k:Nat} {x:XE} {vs:List V} (h:eE K k x vs):∃op num name v,vs= [.int .i64 op,.int .i64 num,.str name,v]/\bJ K 4 (eE K (k-1)) x.kids v:=by
 cases k with
 | zero=>cases x;exact h.elim
 | succ k=>
  obtain⟨op,num,name,kids⟩:=x;obtain⟨v,rfl,hk⟩:=h;exact⟨_,_,_,v,Z,hk⟩
open Classical in
def dq {α:Type} (a b:α):Bool:=decide (a=b)
theorem cL {α:Type} {a b:α}:dq a b=true↔a=b:=by unfold dq;simp
theorem ni {α:Type} {a b:α}:dq a b=false↔a≠b:=by unfold dq;simp
theorem bN {c:Bool} (h:(bif c then false else true)=true):c=false:=by cases c<;>simp_all
theorem bn {c:Bool} (h:(bif c then false else true)=false):c=true:=by cases c<;>simp_all
theorem fp {α:Type} {l1 l2:List α} (h:D (.ofNat l1.length) (.ofNat l2.length)=false):dq l1 l2=false:=by
 rw[ni];rintro rfl;rw[dE] at h;simp at h
theorem dA {α β:Type} {l1:List α} {l2:List β} (h:D (.ofNat l1.length) (.ofNat l2.length)=true):l1.length=l2.length:=by
 rw[dE] at h
 grind
theorem fM {α:Type} {l1 l2:List α} {i:Nat} {x y:α} (hx:l1[i]?=some x) (hy:l2[i]?=some y) (h:dq x y=false):dq l1 l2=false:=by
 rw[ni] at h⊢
 grind
theorem ep {α:Type} {l1 l2:List α} {i:Nat} (hl:l1.length=l2.length) (hi:l1.length<=i) (h:∀k,k<i->l1[k]?=l2[k]?):dq l1 l2=true:=by
 rw[cL];refine List.ext_getElem? fun k=>?_
 grind
theorem jT {α:Type} {l1 l2:List α} {i:Nat} {x y:α} (h:∀k,k<i->l1[k]?=l2[k]?) (hx:l1[i]?=some x) (hy:l2[i]?=some y) (hs:dq x y=true):∀k,k<i+1->l1[k]?=l2[k]?:=fun k hk=>by
 grind [cL]
theorem br {a b:Nat} (h:bR (.ofNat a) (.ofNat b)=false):b<=a:=by
 grind [fo]
theorem bk {a b:Nat} (h:bR (.ofNat a) (.ofNat b)=true):a<b:=by
 rw[fo,decide_eq_true_iff] at h
 simp_all
theorem cq {α:Type} {l:List α} {i:Nat} (h:i<l.length):∃x,l[i]?=some x:=⟨l[i],gC h⟩
def nD (f:XE->Int->Int):List XE->Int->Int
 | [],m=>m
 | x::r,m=>bif bR m 0 then m else nD f r (f x m)
def CS (name:List Nat) (left:Int):Int:=wr .i64 (Int.sub (wr .i64<|Int.sub left 1)<|wr .i64<|Int.tdiv (.ofNat<|cY name) 20)
def sg:Nat->XE->Int->Int
 | 0,_,m=>m
 | k+1,.mk _ _ name kids,m=>nD (sg k) kids (CS name m)
def xM (k:Nat) (x:XE) (most:Int):Bool:=bif bR (sg k x most) 0 then false else true
def sP (k:Nat) (x:XI):Bool:=bif bR 4 (.ofNat x.exprs.length) then false else x.exprs.all fun e=>xM k e 60
def qB (k:Nat) (most:Int) (x:XC):Bool:=bif bR most (.ofNat x.ins.length) then false else x.ins.all (sP k)
def pD (k:Nat) (most:Int) (l:List XC):Bool:=(l.take 6).all (qB k most) && (bif bR 6 (.ofNat l.length) then false else true)
theorem HS {f:XE->Int->Int} {l:List XE} {i:Nat} {m:Int} (h:l.length<=i):nD f (l.drop i) m=m:=by rw[List.drop_eq_nil_of_le h];rfl
theorem HQ {f:XE->Int->Int} {l:List XE} {m:Int} (h:bR m 0=true):nD f l m=m:=by
 cases l with
 | nil=>rfl
 | cons x r=>show(bif bR m 0 then m else _)=m;rw[h];rfl
theorem E4 {f:XE->Int->Int} {l:List XE} {i:Nat} {m:Int} {x:XE} (hx:l[i]?=some x) (h:bR m 0=false):nD f (l.drop i) m=nD f (l.drop (i+1)) (f x m):=by
 have u:i<l.length:=(gA.1 hx).1;rw[List.drop_eq_getElem_cons u];have:l[i]=x:=(gA.1 hx).2;rw[this];show(bif bR m 0 then m else _)=_;rw[h];rfl
theorem gQ {α:Type} {f:α->Bool} {l:List α} {i:Nat} {x:α} (hx:l[i]?=some x) (h:f x=false):l.all f=false:=by
 grind
theorem Ly {α:Type} {f:α->Bool} {l:List α} {i n:Nat} {x:α} (hx:l[i]?=some x) (hi:i<n) (h:f x=false):(l.take n).all f=false:=gQ (i:=i) (by simp_all) h
theorem fc {α:Type} {f:α->Bool} {l:List α} {i:Nat} {x:α} (u:(l.take i).all f=true) (hx:l[i]?=some x) (h:f x=true):(l.take (i+1)).all f=true:=by
 rw[List.take_add_one,hx,List.all_append,u];simp[h]
theorem dT {α:Type} {f:α->Bool} {l:List α} {i:Nat} (u:(l.take i).all f=true) (h:l.length<=i):l.all f=true:=by
 rw[tL_ h] at u;exact u
theorem Ca {α:Type} {f:α->Bool} {l:List α} {i n:Nat} (u:(l.take i).all f=true) (h:n<=i):(l.take n).all f=true:=by
 rw[aE_] at u⊢
 exact fun x hx=>u x (by
  obtain⟨j,hj⟩:=gO_ hx;rw[List.getElem?_take] at hj;split at hj
  ·exact gB_ (i:=j) (by grind)
  cases hj)
theorem eE.beq {K:H} {k:Nat} {x:XE} {vs:List V} (h:eE K k x vs):dZ (.agg vs) (.agg vs)=true:=by
 cases k with
 | zero=>cases x;exact h.elim
 | succ k=>
  obtain⟨op,num,name,kids⟩:=x;obtain⟨v,rfl,hk⟩:=h;exact fK<|bK (fX _ _)<|bK (fX _ _)<|bK (td _)<|bK hk.eI eP
theorem gp.beq {K:H} {k:Nat} {x:XI} {vs:List V} (h:gp K k x vs):dZ (.agg vs) (.agg vs)=true:=by
 obtain⟨v,rfl,hk⟩:=h;exact fK<|bK (fX _ _)<|bK (fX _ _)<|bK (fX _ _)<|bK (fX _ _)<|bK (fX _ _)<|bK hk.eI eP
theorem jc.beq {K:H} {k:Nat} {x:XC} {vs:List V} (h:jc K k x vs):dZ (.agg vs) (.agg vs)=true:=by
 obtain⟨v,rfl,hk⟩:=h;exact fK<|bK (fX _ _)<|bK hk.eI eP
theorem cE {α:Type} {l:List α} {i:Nat} (h:bR (.ofNat i) (.ofNat l.length)=true):∃x,l[i]?=some x/\i<l.length:=by
 rw[fo,decide_eq_true_iff] at h
 simp_all
end Go.Ev
namespace Go.Ev
variable [Env]
def cz (n:Int) (vs:List V):Prop:=vs= [.int .i64 n]
def RL {α:Type} (K:H) (m:Nat) (R:α->List V->Prop) (l:List α) (vs:List V):Prop:=∃v,vs= [v]/\bJ K m R l v
theorem tg {a b:Int}:D a b=dq a b:=by rw[dE,Bool.eq_iff_iff,decide_eq_true_iff,cL]
theorem jl {α:Type} {f:α->Bool} {l:List α} {i:Nat} {x:α} (u:(l.take i).any f=false) (hx:l[i]?=some x) (h:f x=false):(l.take (i+1)).any f=false:=by
 rw[List.take_add_one,hx,List.any_append,u];simp[h]
theorem lP {α:Type} {f:α->Bool} {l:List α} {i:Nat} {x:α} (hx:l[i]?=some x) (h:f x=true):l.any f=true:=by
 grind
theorem fP {α:Type} {f:α->Bool} {l:List α} {i:Nat} (u:(l.take i).any f=false) (h:l.length<=i):l.any f=false:=by
 rw[tL_ h] at u;exact u
def EO (xs ys:List Int):Bool:=
 List.rec (motive:=fun _=>List Int->Bool) (fun ys=>List.rec (motive:=fun _=>Bool) true (fun _ _ _=>false) ys)
  (fun x _ ih ys=>List.rec (motive:=fun _=>Bool) false (fun y r _=>bif D x y then ih r else false) ys) xs ys
theorem Gh:∀(xs ys:List Int),EO xs ys=dq xs ys
 | [],[]=>by rw[show EO [] []=true from Z,eq_comm,cL]
 | [],_::_=>by rw[show EO [] (_::_)=false from Z,eq_comm,ni];simp
 | _::_,[]=>by rw[show EO (_::_) []=false from Z,eq_comm,ni];simp
 | x::xs,y::ys=>by
  show(bif D x y then EO xs ys else false)=_;rw[Gh xs ys,dE,Bool.eq_iff_iff,cL]
  grind [cL]
def ints (xs:List Int):List V:=xs.map (.int .i64)
def JP:Option TypeDesc->Bool
 | some (.int .i64)=>true
 | _=>false
def uz (P:Program) (fs:List Field):Nat->Bool:=List.rec (motive:=fun _=>Nat->Bool) (fun _=>true) (fun f _ ih k=>JP (P.underlying f.type) && (Nat.beq f.offset k && ih (k+1))) fs
def jX (P:Program) (t:TypeId) (n:Nat):Bool:=
 match structOf P t with
 | some fs=>uz P fs.toList 0 && (Nat.beq fs.toList.length n && (!P.eqGuardType P.depth t && (!P.stoodInHeld t && mr fs.toList)))
 | none=>false
theorem sc {P:Program}:∀(fs:List Field) (k:Nat) (xs ys:List Int),uz P fs k=true->xs.length=k+fs.length->ys.length=k+fs.length->eqFields P fs (ints xs) (ints ys)=some (EO (xs.drop k)<|ys.drop k)
 | [],k,xs,ys,_,h1,u=>by
  rw[List.drop_eq_nil_of_le (by simp at h1;omega),List.drop_eq_nil_of_le (by simp at u;omega)];rfl
 | f::fs,k,xs,ys,h,h1,u=>by
  have h':(JP (P.underlying f.type) && (Nat.beq f.offset k && uz P fs (k+1)))=true:=h;simp only[bA_] at h';obtain⟨e1,z,A⟩:=h';have hk:f.offset=k:=nB z
  have hu:P.underlying f.type=some (.int .i64):=by
   grind [JP]
  have l1:k<xs.length:=by simp at h1;omega
  have l2:k<ys.length:=by simp at u;omega
  have n1:nth (ints xs) f.offset=some (.int .i64 xs[k]):=by grind [eL,ints]
  have C:nth (ints ys) f.offset=some (.int .i64 ys[k]):=by grind [eL,ints]
  have ih:=sc fs (k+1) xs ys A (by simp at h1⊢;omega) (by simp at u⊢;omega)
  show(match P.underlying f.type,nth (ints xs) f.offset,nth (ints ys) f.offset with
   | some .bool,some (.bool a),some (.bool b)=>bif (bif a then b else(bif b then false else true)) then eqFields P fs (ints xs) (ints ys) else some false
   | some (.int _),some (.int j a),some (.int k b)=>bif s7 j k then(bif D a b then eqFields P fs (ints xs) (ints ys) else some false) else none
   | some .string,some (.str a),some (.str b)=>bif gY a b then eqFields P fs (ints xs) (ints ys) else some false
   | some (.struct gs),_,_=>_
   | some (.array m e),_,_=>_
   | _,_,_=>none)=_
  rw[hu,n1,C,List.drop_eq_getElem_cons l1,List.drop_eq_getElem_cons l2,ih];show(bif D xs[k] ys[k] then _ else some false)=some (bif D xs[k] ys[k] then EO (xs.drop (k+1)) (ys.drop (k+1)) else false)
  grind
theorem xg {P:Program} {t:TypeId} {n:Nat} {xs ys:List Int} (h:jX P t n=true) (hx:xs.length=n) (hy:ys.length=n):EN P t (.agg<|ints xs) (.agg<|ints ys)=some (dq xs ys):=by
 unfold jX at h;split at h
 ·rename_i fs u;simp only[bA_,Bool.not_eq_true'] at h;obtain⟨h1,z,A,h4,h5⟩:=h;have hn:fs.toList.length=n:=nB z;unfold EN;dsimp only;rw[u];dsimp only;rw[A,h4,h5];simp only[Bool.not_true,Bool.or_false,cond_false];rw[sc fs.toList 0 xs ys h1 B B,List.drop_zero,List.drop_zero,Gh]
 cases h
section
variable {P:Program} {G:Cx} {ev:Operand->Option V} {U:I}
theorem Le {t r:TypeId} {x y:Operand} {n:Nat} {ca cb:List Int} (h:jX P t n=true) (u:ca.length=n) (hb:cb.length=n) (hx:ev x=some (.agg<|ints ca)) (hy:ev y=some (.agg<|ints cb)):dX P G ev U (.binOp .eql t x y r)= .val (.bool<|dq ca cb) U:=by
 refine az hx hy ?_;show nz P .eql t _ _=_;unfold nz;dsimp only;rw[xg h u hb]
theorem Ax {t r:TypeId} {x y:Operand} {n:Nat} {ca cb:List Int} (h:jX P t n=true) (u:ca.length=n) (hb:cb.length=n) (hx:ev x=some (.agg<|ints ca)) (hy:ev y=some (.agg<|ints cb)):dX P G ev U (.binOp .neq t x y r)= .val (.bool (bif dq ca cb then false else true)) U:=by
 refine az hx hy ?_;show nz P .neq t _ _=_;unfold nz;dsimp only;rw[xg h u hb]
end
structure dy where
 iH:Int
 index:Int
structure de where
 kind:Int
 loc:Int
 order:Int
 read:Int
 write:Int
structure XG where
 init:List Int
 threads:List (List de)
 from_:List (List dy)
 order:List (List dy)
def dy.ints (x:dy):List Int:=[x.iH,x.index]
def de.ints (x:de):List Int:=[x.kind,x.loc,x.order,x.read,x.write]
theorem dy.same {x y:dy}:dq x.ints y.ints=dq x y:=by
 rw[Bool.eq_iff_iff,cL,cL];cases x;cases y;simp[dy.ints]
theorem de.same {x y:de}:dq x.ints y.ints=dq x y:=by
 rw[Bool.eq_iff_iff,cL,cL];cases x;cases y;simp[de.ints]
def jz (x:dy) (vs:List V):Prop:=vs=ints x.ints
def ji (x:de) (vs:List V):Prop:=vs=ints x.ints
structure ej (K:H) (g:XG) (a b c d:V):Prop where
 init:bJ K 1 cz g.init a
 threads:bJ K 1 (RL K 5 ji) g.threads b
 from_:bJ K 1 (RL K 2 jz) g.from_ c
 order:bJ K 1 (RL K 2 jz) g.order d
theorem nI {a b:XG}:dq a b=(dq a.init b.init && (dq a.threads b.threads && (dq a.from_ b.from_ && dq a.order b.order))):=by
 rw[Bool.eq_iff_iff,cL];cases a;cases b;simp[cL]
def dR (e:de):Bool:=bif D e.kind 1 then true else D e.kind 3
def bD (e:de):Bool:=bif D e.kind 2 then true else D e.kind 3
def bd (b:Bool):Bool:=bif b then false else true
def cj (e:de) (n:Int):Bool:=
 bif bR e.kind 1 then false else bif bR 4 e.kind then false else bif bR e.order 1 then false else bif bR 6 e.order then false else
 bif (bif (!dR e) then bd (D e.read 0) else false) then false else bif (bif (!bD e) then bd (D e.write 0) else false) then false else
 bif D e.kind 4 then D e.loc 0 else bif bd (bR e.loc 0) then bR e.loc n else false
def fE (g:XG) (id:dy):Option de:=
 match id.iH,id.index with
 | .ofNat 0,.ofNat i=>(g.init[i]?).map fun v=>⟨2,i,1,0,v⟩
 | .ofNat (t+1),.ofNat i=>(g.threads[t]?).bind (·[i]?)
 | _,_=>none
def BY (x:Option de):de:=x.getD ⟨0,0,0,0,0⟩
theorem uu {g:XG} {th ix:Int} (h:bR th 0=true):fE g ⟨th,ix⟩=none:=by
 rw[fo,decide_eq_true_iff] at h;cases th with
 | ofNat t=>grind
 | negSucc t=>rfl
theorem rm {g:XG} {th ix:Int} (h:bR ix 0=true):fE g ⟨th,ix⟩=none:=by
 rw[fo,decide_eq_true_iff] at h;cases ix with
 | ofNat t=>grind
 | negSucc t=>cases th with
  | ofNat n=>cases n<;>rfl
  | negSucc n=>rfl
theorem CB {g:XG} {th ix:Int} (h:bR (.ofNat g.threads.length) th=true):fE g ⟨th,ix⟩=none:=by
 rw[fo,decide_eq_true_iff] at h;cases th with
 | negSucc t=>rfl
 | ofNat t=>
  have h:g.threads.length<t:=Int.ofNat_lt.1 h;cases t with
  | zero=>omega
  | succ t=>
   cases ix with
   | negSucc n=>rfl
   | ofNat n=>
    show(g.threads[t]?).bind _=none
    grind
theorem iD {n:Int} (h:bR n 0=false):∃m:Nat,n= .ofNat m:=by
 rw[fo,decide_eq_false_iff_not] at h;cases n with
 | ofNat m=>exact⟨m,Z⟩
 | negSucc m=>omega
theorem GZ {n:Nat} (h:D (.ofNat n) 0=false):∃m:Nat,n=m+1:=by
 cases n with
 | zero=>cases h
 | succ m=>exact⟨m,Z⟩
theorem eu {t:Nat} (h:t<=9223372036854775807):wr .i64 (Int.sub (.ofNat (t+1)) 1)= .ofNat t:=by
 have e:Int.sub (.ofNat (t+1)) 1= .ofNat t:=by
  grind
 rw[e];show(bif Nat.ble t 9223372036854775807 then _ else _)=_
 grind [nE_]
theorem mZ {a b:Nat} (h:bR (.ofNat a) (.ofNat b)=false):b<=a:=br h
theorem oC {a b:Nat} (h:(bif bR (.ofNat a) (.ofNat b) then false else true)=false):a<b:=bk (bn h)
theorem oA {a b:Nat} (h:(bif bR (.ofNat a) (.ofNat b) then false else true)=true):b<=a:=br (bN h)
section
variable {P:Program} {G:Cx} {n:Nat} {t:PT V} {U:I} {Q:Ex->PT V->I->Prop}
theorem Bu {fn:Func} {j k ty b m e:Nat} {ro:Bool} {cells:List V} {v:V} (z:fn.results.toList= [.cell j ty,.tmp k]) (h1:t.get j=some (.ptr b 0)) (hm:U.m.get b=some (.row cells e ro)) (A:dO P ty=some (some m)) (u:cells.length=m) (C:t.get k=some v):fg P fn t U=some (.tuple [.agg cells,v]):=by
 unfold fg;rw[z]
 have e1:fS P t U (.cell j ty)=some (V.agg cells):=by
  show(match t.get (posOf j) with
   | some (.ptr b off)=>match U.m.get b with
    | some (.row cells _ _)=>match dO P ty with
     | some (some n)=>bif Nat.ble (off+n) (cY cells) then some (V.agg<|takeN (dP cells off) n) else none
     | some none=>nth cells off
     | none=>none
    | _=>none
   | _=>none)=_
  rw[show t.get (posOf j)=some (.ptr b 0) from h1];dsimp only;rw[hm];dsimp only;rw[A];dsimp only;rw[bP,u,nA_,show Nat.ble m m=true by simp_all,dn,dM,List.drop_zero,<-u,List.take_length];rfl
 have E:fS P t U (.tmp k)=some v:=C
 have:cU (fS P t U) [.cell j ty,.tmp k]=some [V.agg cells,v]:=by
  unfold cU;simp only[e1,E]
 rw[this]
theorem bB {fn:Func} {R:V->I->Prop} {j k ty b m e:Nat} {ro:Bool} {cells:List V} {v:V} (u:fn.results.toList= [.cell j ty,.tmp k]) (h1:t.get j=some (.ptr b 0)) (hm:U.m.get b=some (.row cells e ro)) (z:dO P ty=some (some m)) (A:cells.length=m) (C:t.get k=some v) (E:R (.tuple [.agg cells,v]) U):AO P fn R .ret t U:=
 ⟨.inr Z,_,Bu u h1 hm z A C,E⟩
end
end Go.Ev
namespace Go.Ev
variable [Env]
def dH (g:XG) (id from_:dy):Bool:=
 bif !dR (BY<|fE g id) then dq [from_.iH,from_.index] [0,0] else
 bif (fE g from_).isSome then
  bif (bif dq [from_.iH,from_.index] [id.iH,id.index] then false else true) then
   bif bD (BY<|fE g from_) then
    bif D (BY<|fE g from_).loc (BY<|fE g id).loc then D (BY<|fE g from_).write (BY<|fE g id).read else false
   else false
  else false
 else false
def eV (g:XG):Bool:=bif bR 4 (.ofNat g.threads.length) then true else bif bR 6 (.ofNat g.init.length) then true else g.threads.any fun l=>bR 14 (.ofNat l.length)
abbrev LM:=List (List Int×Int)
inductive fF (n:Nat):List fN->LM->Prop
 | nil:fF n [] []
 | cons {e:fN} {k:List Int} {v:Int} {es:List fN} {m:LM}:k.length=n->e.key= .agg (ints k)->e.val= .int .i64 v->fF n es m->fF n (e::es) ((k,v)::m)
def qC:LM->List Int->Nat->Option (Nat×Int)
 | [],_,_=>none
 | (k',v)::m,k,i=>bif dq k k' then some (i,v) else qC m k (i+1)
def gm (m:LM) (k:List Int):Option Int:=(qC m k 0).map (·.2)
def qD (m:LM) (k:List Int) (v:Int):LM:=
 match qC m k 0 with
 | some (i,_)=>m.set i (k,v)
 | none=>m++[(k,v)]
def lW (m:LM) (k:List Int):LM:=
 match qC m k 0 with
 | some (i,_)=>m.eraseIdx i
 | none=>m
theorem fF.length {n:Nat} {es:List fN} {m:LM} (h:fF n es m):es.length=m.length:=by
 induction h with
 | nil=>rfl
 | cons _ _ _ _ ih=>simp[ih]
theorem fF.set {n:Nat} {es:List fN} {m:LM} (h:fF n es m) {e:fN} {k:List Int} {v:Int} (h1:k.length=n) (u:e.key= .agg (ints k)) (z:e.val= .int .i64 v):∀i,fF n (es.set i e) (m.set i (k,v)):=by
 induction h with
 | nil=>intro i;exact .nil
 | cons a b c d ih=>
  intro i;cases i with
  | zero=>exact .cons h1 u z d
  | succ i=>exact .cons a b c (ih i)
theorem fF.snoc {n:Nat} {es:List fN} {m:LM} (h:fF n es m) {e:fN} {k:List Int} {v:Int} (h1:k.length=n) (u:e.key= .agg (ints k)) (z:e.val= .int .i64 v):fF n (es++[e]) (m++[(k,v)]):=by
 induction h with
 | nil=>exact .cons h1 u z .nil
 | cons a b c d ih=>exact .cons a b c ih
theorem fF.erase {n:Nat} {es:List fN} {m:LM} (h:fF n es m):∀i,fF n (es.eraseIdx i) (m.eraseIdx i):=by
 induction h with
 | nil=>intro i;exact .nil
 | cons a b c d ih=>
  intro i;cases i with
  | zero=>exact d
  | succ i=>exact .cons a b c (ih i)
theorem fF.at {n:Nat} {es:List fN} {m:LM} (h:fF n es m):∀{i:Nat} {k:List Int} {v:Int},m[i]?=some (k,v)->∃e,es[i]?=some e/\k.length=n/\e.key= .agg (ints k):=by
 induction h with
 | nil=>simp_all
 | cons a b c d ih=>
  grind
theorem wY:∀(es:List fN) (i:Nat),wX es i=es.eraseIdx i
 | [],_=>rfl
 | _::_,0=>rfl
 | e::es,i+1=>by
  show e::wX es i=e::es.eraseIdx i;rw[wY es i]
theorem rC:∀{m:LM} {k:List Int} {i j:Nat} {v:Int},qC m k i=some (j,v)->i<=j/\m[j-i]?=some (k,v)
 | [],k,i,j,v,h=>by cases h
 | (k',v')::m,k,i,j,v,h=>by
  have h':(bif dq k k' then some (i,v') else qC m k (i+1))=some (j,v):=h;cases u:dq k k' with
  | true=>
   grind [cL]
  | false=>
   rw[u] at h';obtain⟨h1,h2⟩:=rC h'
   grind
theorem r8:∀(xs:List Int),qi (ints xs) (ints xs)=true
 | []=>rfl
 | x::xs=>by
  have e:sL (.int .i64 x) (.int .i64 x)=some true:=by
   show(bif s7 .i64 .i64 then some (D x x) else none)=some true;rw[dE];simp[s7]
  show(match sL (.int .i64 x) (.int .i64 x) with | some true=>qi (ints xs) (ints xs) | _=>false)=true;rw[e];exact r8 xs
section
variable {P:Program}
theorem xn {t:TypeId} {fs:Array Field} {n:Nat} (hu:P.underlying t=some (.struct fs)) (u:jX P t n=true) {k:List Int} (hk:k.length=n) {es:List fN} {m:LM} (h:fF n es m):∀i,pW P t (.agg<|ints k) es i=some ((qC m k i).map fun x=>(x.1,.int .i64 x.2)):=by
 induction h with
 | nil=>intro i;rfl
 | @cons e k' v es m a b c d ih=>
  intro i
  have hq:pY P t (.agg<|ints k) e.key=some (dq k k'):=by
   unfold pY;rw[hu,b];exact xg u hk a
  show(match pY P t (.agg<|ints k) e.key with
   | some true=>some (some (i,e.val))
   | some false=>pW P t (.agg<|ints k) es (i+1)
   | none=>none)=some (Option.map _ (bif dq k k' then some (i,v) else qC m k (i+1)))
  grind
structure Ec (P:Program) (t kt et:TypeId) (n:Nat):Prop where
 ty:P.underlying t=some (.map kt et)
 plain:plainKey P kt=true
 ints:jX P kt n=true
 zero:fJ P et=some (.int .i64 0)
 shape:∀k:List Int,k.length=n->mX P kt (.agg<|Go.Ev.ints k)=true
theorem lU {t:TypeId} {n:Nat} (h:jX P t n=true):∃fs,P.underlying t=some (.struct fs):=by
 grind [jX,structOf,oT]
variable {G:Cx} {ev:Operand->Option V} {U:I}
theorem Lh {t kt et:TypeId} {n:Nat} (u:Ec P t kt et n) {b:Nat} {es:List fN} {ck:Nat} {m:LM} (hm:fF n es m) (hb:U.m.get b=some (.map es ck)) {mo ko xo:Operand} {k:List Int} {v:Int} (hk:k.length=n) (h1:ev mo=some (.map b)) (A:ev ko=some (.agg<|ints k)) (C:ev xo=some (.int .i64 v)):
  ∃es' ck',dX P G ev U (.mapUpdate t mo ko xo)= .skip (U.setObj b (.map es' ck'))/\fF n es' (qD m k v):=by
 obtain⟨fs,hu⟩:=lU u.ints;have hf:=xn hu u.ints hk hm 0
 have key:∃es' ck',nL P U t (.map b) (.agg<|ints k) (.int .i64 v)=some (U.setObj b (.map es' ck'))/\fF n es' (qD m k v):=by
  unfold nL qD;rw[u.ty];dsimp only;rw[hb];dsimp only;rw[u.plain,u.shape k hk];simp only[Bool.and_self,cond_true];rw[hf];cases hl:qC m k 0 with
  | none=>exact⟨_,_,Z,by rw[dV];exact hm.snoc hk Z Z⟩
  | some x=>
   obtain⟨i,v0⟩:=x;have hi:=(rC hl).2;rw[Nat.sub_zero] at hi;obtain⟨e,he,_,z⟩:=hm.at hi;simp only[Option.map_some];rw[eL,he];dsimp only;have E:sameKey e.key (.agg<|ints k)=true:=by rw[z];exact r8 k
   rw[E];exact⟨_,_,Z,by unfold By;rw[uP];exact hm.set (e:={key:=.agg<|ints k,val:=.int .i64 v,born:=e.born}) hk Z Z i⟩
 obtain⟨es',ck',h4,h5⟩:=key;refine⟨es',ck',lA Z ?_,h5⟩;simp only[gK,h1,A,C,h4]
theorem Lg {t kt et:TypeId} {n:Nat} (u:Ec P t kt et n) {b:Nat} {es:List fN} {ck:Nat} {m:LM} (hm:fF n es m) (hb:U.m.get b=some (.map es ck)) {mo ko:Operand} {k:List Int} (hk:k.length=n) (h1:ev mo=some (.map b)) (z:ev ko=some (.agg<|ints k)):
  dX P G ev U (.lookup t mo ko true)= .val (.tuple [.int .i64 ((gm m k).getD 0),.bool (gm m k).isSome]) U:=by
 obtain⟨fs,hu⟩:=lU u.ints;have hf:=xn hu u.ints hk hm 0;refine BV Z ?_;simp only[hJ,u.ty,z,h1,hb,u.plain,u.shape k hk,Bool.and_self,cond_true,hf,u.zero];unfold gm;cases qC m k 0 with
 | none=>rfl
 | some x=>rfl
theorem Ld {c:Call} {t kt et:TypeId} {n:Nat} (u:Ec P t kt et n) {b:Nat} {es:List fN} {ck:Nat} {m:LM} (hm:fF n es m) (hb:U.m.get b=some (.map es ck)) {mo ko:Operand} {k:List Int} (hk:k.length=n) (hc:c.callee= .builtin .delete) (z:c.argTypes[0]?=some t) (A:c.args.toList= [mo,ko]) (h1:ev mo=some (.map b)) (C:ev ko=some (.agg<|ints k)):
  ∃es',dX P G ev U (.call c)= .val (.tuple []) (U.setObj b (.map es' ck))/\fF n es' (lW m k):=by
 obtain⟨fs,hu⟩:=lU u.ints;have hf:=xn hu u.ints hk hm 0
 have key:∃es',rk P U c.argTypes (.map b) (.agg<|ints k)=some (U.setObj b (.map es' ck))/\fF n es' (lW m k):=by
  unfold rk lW;rw[z];dsimp only;rw[u.ty];dsimp only;rw[hb];dsimp only;rw[u.plain,u.shape k hk];simp only[Bool.and_self,cond_true];rw[hf];cases hl:qC m k 0 with
  | none=>grind
  | some x=>
   obtain⟨i,v0⟩:=x;exact⟨_,Z,by rw[wY];exact hm.erase i⟩
 obtain⟨es',h4,h5⟩:=key;refine⟨es',lA (by simp[kindOf,hc]) ?_,h5⟩
 have he:uw ev [mo,ko]=some [.map b,.agg<|ints k]:=by
  unfold uw cU;simp only[h1,C]
 simp only[gK,hc,A,he,h4]
theorem Lf {c:Call} {t kt et:TypeId} {n:Nat} (u:Ec P t kt et n) {b:Nat} {es:List fN} {ck:Nat} {m:LM} (hm:fF n es m) (hb:U.m.get b=some (.map es ck)) {mo:Operand} (hc:c.callee= .builtin .len) (z:c.argTypes[0]?=some t) (A:c.args.toList= [mo]) (h1:ev mo=some (.map b)):
  dX P G ev U (.call c)= .val (.int .i64 (.ofNat m.length)) U:=by
 refine BV (by simp[kindOf,hc,isMap,z,u.ty]) ?_;simp only[hJ,hc,z,A,u.ty,h1,hb,bP,hm.length]
end
section
variable {P:Program} {G:Cx} {n:Nat} {t:PT V} {U:I} {K:H} {L:Own} {Q:Ex->PT V->I->Prop} {ops:Array Oper} {o:Oper} {l:List Oper}
theorem Pm (u:J U K L) {t':Nat->PT V} (hw:bS ops t o=some true) (hv:dX P G (bI G t) U o.op= .val (.map U.next) (U.alloc (.map [] 0))) (hp:∀b,dG t n o.dst (.map b)=some (t' b))
  (h:∀(U':I) (b:Nat),J U' K ((b,.map [] 0)::L)->bV P G ops n l (t' b) U' Q):bV P G ops n (o::l) t U Q:=
 O hw hv (hp _) (h _ _<|u.alloc _)
theorem IG {ev:Operand->Option V} {ty:TypeId}:dX P G ev U (.makeMap ty none)= .val (.map U.next) (U.alloc (.map [] 0)):=by
 exact uc (op:=.makeMap ty none) (mk:=.map) (ob:=.map [] 0) Z Z
theorem Ia {ty kt et:TypeId} {kn:Nat} (z:Ec P ty kt et kn) {b:Nat} {es:List fN} {ck:Nat} {m:LM} {x:Nat×cM} (hm:fF kn es m) (u:J U K (x::(b,.map es ck)::L)) {mo ko xo:Operand} {k:List Int} {v:Int} {t':PT V} (hk:k.length=kn) (hw:bS ops t o=some true) (A:o.op= .mapUpdate ty mo ko xo)
  (h1:bI G t mo=some (.map b)) (C:bI G t ko=some (.agg<|ints k)) (E:bI G t xo=some (.int .i64 v)) (hp:dG t n o.dst unit=some t')
  (h:∀U' es' ck',J U' K (x::(b,.map es' ck')::L)->fF kn es' (qD m k v)->bV P G ops n l t' U' Q):bV P G ops n (o::l) t U Q:=by
 obtain⟨es',ck',e1,F⟩:=Lh (G:=G) z hm (u.get 1 Z) hk h1 C E;exact iR hw (by rw[A];exact e1) hp<|h _ _ _ (u.MO _) F
theorem H9 {c:Call} {ty kt et:TypeId} {kn:Nat} (z:Ec P ty kt et kn) {b:Nat} {es:List fN} {ck:Nat} {m:LM} {x:Nat×cM} (hm:fF kn es m) (u:J U K (x::(b,.map es ck)::L)) {mo ko:Operand} {k:List Int} {t':PT V} (hk:k.length=kn) (hw:bS ops t o=some true) (A:o.op= .call c)
  (hc:c.callee= .builtin .delete) (C:c.argTypes[0]?=some ty) (E:c.args.toList= [mo,ko]) (h1:bI G t mo=some (.map b)) (F:bI G t ko=some (.agg<|ints k)) (hp:dG t n o.dst (.tuple [])=some t')
  (h:∀U' es',J U' K (x::(b,.map es' ck)::L)->fF kn es' (lW m k)->bV P G ops n l t' U' Q):bV P G ops n (o::l) t U Q:=by
 obtain⟨es',e1,M⟩:=Ld (G:=G) z hm (u.get 1 Z) hk hc C E h1 F;exact O hw (by rw[A];exact e1) hp<|h _ _ (u.MO _) M
end
end Go.Ev
namespace Go.Ev
variable [Env]
def xG (t:Nat) (m:LM) (n:Nat) (e:de):LM:=bif bD e then qD m [.ofNat (t+1),.ofNat n] e.loc else m
def rW (t:Nat):List de->Nat->LM->LM
 | [],_,m=>m
 | e::l,n,m=>rW t l (n+1) (xG t m n e)
def qb:List (List de)->Nat->LM->LM
 | [],_,m=>m
 | l::r,t,m=>qb r (t+1) (rW t l 0 m)
def me (loc:Nat):List dy->LM->Option LM
 | [],m=>some m
 | id::l,m=>bif (gm m id.ints).isSome then(bif D ((gm m id.ints).getD 0) (.ofNat loc) then me loc l (lW m id.ints) else none) else none
def nQ:List (List dy)->Nat->LM->Option LM
 | [],_,m=>some m
 | l::r,loc,m=>(me loc l m).bind (nQ r (loc+1))
def eZ (g:XG):Bool:=
 match nQ g.order 0 (qb g.threads 0 []) with
 | some m=>D (.ofNat m.length) 0
 | none=>false
theorem cO {α:Type} {l:List α} {i:Nat} {x:α} (h:l[i]?=some x):l.drop i=x::l.drop (i+1):=by
 grind [List.drop_eq_getElem_cons]
theorem ff {α:Type} {l:List α} {i:Nat} (h:l.length<=i):l.drop i= []:=List.drop_eq_nil_of_le h
end Go.Ev
namespace Go.Ev
theorem ju {b:Bool} (h:(!b)=true):b=false:=by cases b<;>simp_all
theorem eU {b:Bool} (h:(!b)=false):b=true:=by cases b<;>simp_all
end Go.Ev
namespace Go.Ev
variable [Env]
def rV {α:Type} (p:α->Bool):List α->Nat->Int
 | [],_=>-1
 | x::r,i=>bif p x then .ofNat i else rV p r (i+1)
theorem tx {α:Type} {p:α->Bool}:∀(l:List α) (i:Nat),(bif bR (rV p l i) 0 then false else true)=l.any p
 | [],_=>rfl
 | x::r,i=>by
  show(bif bR (bif p x then .ofNat i else rV p r (i+1)) 0 then false else true)=_;rw[List.any_cons];cases p x with
  | true=>rfl
  | false=>exact tx r (i+1)
def zd (g:XG) (t n:Nat) (e:de) (f:dy):Bool:=bif cj e (.ofNat g.init.length) then dH g ⟨.ofNat (t+1),.ofNat n⟩ f else false
def qS (g:XG) (t:Nat):List de->List dy->Nat->Bool
 | e::l,f::q,n=>bif zd g t n e f then qS g t l q (n+1) else false
 | [],_,_=>true
 | _::_,[],_=>false
def lY (g:XG):List (List de)->List (List dy)->Nat->Bool
 | l::r,f::q,t=>bif D (.ofNat f.length) (.ofNat l.length) then(bif qS g t l f 0 then lY g r q (t+1) else false) else false
 | [],_,_=>true
 | _::_,[],_=>false
def cu (g:XG):Int:=
 bif eV g then 3 else bif D (.ofNat g.from_.length) (.ofNat g.threads.length) then(bif D (.ofNat g.order.length) (.ofNat g.init.length) then(bif lY g g.threads g.from_ 0 then(bif eZ g then 0 else 2) else 2) else 2) else 2
theorem yC:∀(l:List V) (off:Nat),dI [] l off=l
 | [],_=>rfl
 | x::l,0=>rfl
 | x::l,off+1=>by
  show x::dI [] l off=x::l;rw[yC l off]
def qh (P:Program) (e:TypeId) (m:Nat):Bool:=
 match P.info? e with
 | some j=>Nat.beq j.size m && (Nat.ble 1 j.size && (Nat.ble j.bytes 65536 && ((j.zero.bind qF).any fun z=>(cW z).any fun cs=>Nat.beq (cY cs) j.size)))
 | none=>false
theorem vd:∀(l r:List V),cF l=true->cF r=true->cF (l++r)=true
 | [],r,_,h=>h
 | v::l,r,h,h'=>by
  have h1:(bif jb v then cF l else false)=true:=h;cases hv:jb v with
  | false=>rw[hv] at h1;cases h1
  | true=>rw[hv] at h1;exact N hv<|vd l r h1 h'
theorem vE {m:Nat}:∀(n:Nat) (cells:List V),cells.length=n*m->(∀i,i<n->cF ((cells.drop (i*m)).take m)=true)->cF cells=true
 | 0,cells,h,_=>by
  rw[Nat.zero_mul] at h;rw[eN_ h];rfl
 | n+1,cells,h,u=>by
  have e:cells=cells.take m++cells.drop m:=(List.take_append_drop m cells).symm;rw[Nat.succ_mul] at h;rw[e];refine vd _ _ (by have:=u 0 B;grind) (vE (m:=m) n (cells.drop m) (by grind) fun i hi=>?_)
  grind [Nat.succ_mul,List.drop_drop]
section
variable {P:Program} {G:Cx} {U:I} {K:H} {L:Own}
theorem oL {α:Type} {m:Nat} {R:α->List V->Prop} {l:List α} {v:V} (aq:J U K L) (h:bJ K m R l v) (u:∀x vs,R x vs->cF vs=true):
  ∃news,lq U m v=some (l.length,news)/\news.length=l.length*m/\cF news=true/\∀(i:Nat) (x:α),l[i]?=some x->R x ((news.drop (i*m)).take m):=by
 rcases h with ⟨rfl,rfl⟩ | ⟨b,off,c,cells,e,ro,rfl,h2,E,h4,h5,h6⟩
 ·exact⟨[],Z,(Nat.zero_mul m).symm,Z,fun i x hx=>by simp at hx⟩
 have A:∀(i:Nat) (x:α),l[i]?=some x->R x ((((cells.drop off).take (l.length*m)).drop (i*m)).take m):=fun i x hx=>by
  have z:i<l.length:=(gA.1 hx).1;have hle:(i+1)*m<=l.length*m:=nM_ _ z
  grind [List.drop_take,List.drop_drop]
 have C:((cells.drop off).take (l.length*m)).length=l.length*m:=by grind
 refine⟨(cells.drop off).take (l.length*m),?_,C,vE l.length _ C fun i hi=>u _ _ (A i l[i]<|gC hi),A⟩;unfold lq;dsimp only;rw[aq.fx E]
 grind [bP,nE_,dn,dM]
theorem yP {α:Type} {m e:Nat} {R:α->List V->Prop} {l2:List α} {v2:V} {b len1 e1:Nat} {fY:List V} {c:qf} {ts:Array TypeId} {t:TypeId} (M:J U K ((b,.row fY e1 false)::L)) (hx:bJ K m R l2 v2) (E:∀x vs,R x vs->cF vs=true) (hn:l2.length<=1048576)
  (F:fY.length=len1*m) (ab:len1<=1048576) (W:c= .known len1∨(c= .upto m/\e1=e)) (ht:ts[0]?=some t) (hu:P.underlying t=some (.slice e)) (X:qh P e m=true) (h2:dp P ts[1]?=true):
  ∃U' b' c' news e',gh P U ts (.slice b 0 len1 c) v2= .val (.slice b' 0 (len1+l2.length) c') U'/\J U' K ((b',.row (fY++news) e' false)::L)/\news.length=l2.length*m/\(∀(i:Nat) (x:α),l2[i]?=some x->R x ((news.drop (i*m)).take m))/\(c'= .known (len1+l2.length)∨(c'= .upto m/\e'=e)):=by
 obtain⟨news,s1,s2,s3,s4⟩:=oL M hx E;unfold qh at X;split at X
 ·rename_i j hj;simp only[bA_] at X;obtain⟨a1,a2,a3,a4⟩:=X;have hm:j.size=m:=nB a1;subst hm;have hz:((P.info? e).any fun j=>(j.zero.bind qF).any fun z=>(cW z).any fun cs=>Nat.beq (cY cs) j.size)=true:=by rw[hj];exact a4
  have hb:=M.get 0 Z;unfold gh;rw[ht];dsimp only;rw[hu];dsimp only;rw[hj];dsimp only;rw[h2,a2,a3];simp only[Bool.and_self,cond_true];rw[s1];dsimp only;rw[hj] at hz;rw[s3,show Nat.ble l2.length 1048576=true by simp_all,hz];simp only[Bool.and_self,cond_true];have hle:Nat.ble (0+len1*j.size) (cY fY)=true:=by rw[nE_,bP,F];omega
  have A:takeN (dP fY 0) (len1*j.size)=fY:=by grind [dn,dM]
  have C:Nat.ble len1 1048576=true:=by simp_all
  rcases W with rfl | ⟨rfl,rfl⟩
  ·dsimp only
   by_cases h0:l2.length=0
   ·have u:news= []:=eN_ (by simp_all);subst u;rw[h0,show Nat.ble (len1+0) len1=true by simp_all];simp only[cond_true];rw[hb];dsimp only;rw[show Nat.ble (0+len1*j.size+cY []) (cY fY)=true by rw[nE_,bP,bP,F];simp];simp only[cond_true];refine⟨_,b,.known len1,[],e1,Z,?_,by simp,s4,.inl Z⟩;rw[yC,List.append_nil];exact M.pP _
   have:Nat.ble (len1+l2.length) len1=false:=by
    grind [nE_]
   rw[this];simp only[cond_false];rw[hb];dsimp only;rw[hle,C,A,dV];simp only[Bool.and_self,cond_true];refine⟨_,_,_,news,e,Z,?_,s2,s4,.inr ⟨Z,Z⟩⟩;exact((M.alloc _).perm<|List.Perm.swap ..).pop
  dsimp only
  by_cases h0:l2.length=0
  ·have u:news= []:=eN_ (by simp_all);subst u;rw[h0];exact⟨_,b,.upto j.size,[],e1,Z,by simp_all,by simp,s4,.inr ⟨Z,Z⟩⟩
  have:Nat.beq l2.length 0=false:=by
   grind [nB]
  rw[this,Nat.beq_refl,C];simp only[Bool.and_self,cond_true,cond_false];rw[hb];dsimp only
  have aa:Nat.ble (0+len1*j.size+cY news) (cY fY)=false:=by
   cases hh:Nat.ble (0+len1*j.size+cY news) (cY fY) with
   | false=>rfl
   | true=>
    rw[nE_,bP,bP,F,s2] at hh;have h1:1<=j.size:=by simp_all
    have:1<=l2.length*j.size:=Nat.mul_pos B h1;omega
  rw[aa,Bool.and_false];simp only[cond_false];rw[hle,Nat.beq_refl,A,dV];simp only[Bool.and_self,cond_true];exact⟨_,_,_,news,e1,Z,M.yl _,s2,s4,.inr ⟨Z,Z⟩⟩
 cases X
end
section
variable {P:Program} {G:Cx} {n:Nat} {t:PT V} {U:I} {K:H} {L:Own} {Q:Ex->PT V->I->Prop} {ops:Array Oper} {o:Oper} {l:List Oper}
theorem dB {ev:Operand->Option V} {cl:Call} {so xo:Operand} {s x:V} {r:HR} (hc:cl.callee= .builtin .append) (z:cl.args.toList= [so,xo]) (h1:ev so=some s) (A:ev xo=some x) (u:dp P cl.argTypes[1]?=true) (h:gh P U cl.argTypes s x=r):dX P G ev U (.call cl)=r:=by
 refine lA (by simp[kindOf,hc]) ?_
 have he:uw ev [so,xo]=some [s,x]:=by
  unfold uw cU;simp only[h1,A]
 simp only[gK,hc,z,he,u,cond_true];exact h
theorem oD {α:Type} {m e:Nat} {R:α->List V->Prop} {l2:List α} {X:V} {b len1 e1:Nat} {fY:List V} {c:qf} {ty:TypeId} {cl:Call} {so xo:Operand} {t':V->PT V} (hs:J U K ((b,.row fY e1 false)::L)) (hx:bJ K m R l2 X) (u:∀x vs,R x vs->cF vs=true) (hn:l2.length<=1048576)
  (C:fY.length=len1*m) (E:len1<=1048576) (A:c= .known len1∨(c= .upto m/\e1=e)) (hw:bS ops t o=some true) (ho:o.op= .call cl) (F:cl.callee= .builtin .append) (z:cl.args.toList= [so,xo]) (ht:cl.argTypes[0]?=some ty) (hu:P.underlying ty=some (.slice e)) (ha:qh P e m=true) (h2:dp P cl.argTypes[1]?=true)
  (M:bI G t so=some (.slice b 0 len1 c)) (W:bI G t xo=some X) (hp:∀v,dG t n o.dst v=some (t' v))
  (h:∀(U':I) (b':Nat) (c':qf) (news:List V) (e':Nat),J U' K ((b',.row (fY++news) e' false)::L)->news.length=l2.length*m->(∀(i:Nat) (x:α),l2[i]?=some x->R x ((news.drop (i*m)).take m))->(c'= .known (len1+l2.length)∨(c'= .upto m/\e'=e))->bV P G ops n l (t' (.slice b' 0 (len1+l2.length) c')) U' Q):bV P G ops n (o::l) t U Q:=by
 obtain⟨U',b',c',news,e',k1,k2,k3,k4,k5⟩:=yP (P:=P) hs hx u hn C E A ht hu ha h2;refine O hw ?_ (hp _)<|h U' b' c' news e' k2 k3 k4 k5;rw[ho];exact dB F z M W h2 k1
end
end Go.Ev
namespace Go.Ev
variable [Env]
section
variable {P:Program} {G:Cx} {n:Nat} {t:PT V} {U:I} {K:H} {L:Own} {Q:Ex->PT V->I->Prop} {ops:Array Oper} {o:Oper} {l:List Oper}
theorem yy {α:Type} {m e k:Nat} {kk:IntKind} {R:α->List V->Prop} {la:List α} {v:V} {ty:TypeId} {ev:Operand->Option V} {xo hi:Operand} (h:bJ K m R la v) (hk:k<=la.length) (hu:P.underlying ty=some (.slice e)) (hj:(P.info? e).map (·.size)=some m) (hx:ev xo=some v) (A:ev hi=some (.int kk (.ofNat k))):
  ∃w,fD P ev ty xo none (some hi) none=some w/\bJ K m R (la.take k) w:=by
 cases hq:P.info? e with
 | none=>simp_all
 | some j=>
 rw[hq] at hj;have hj:j.size=m:=by simpa using hj
 subst hj;have hlen:(la.take k).length=k:=by simp_all
 have hb:∀y,k<=y->fl ev hi y=some k:=fun y hy=>by
  unfold fl;rw[A]
  grind [nE_]
 rcases h with ⟨rfl,rfl⟩ | ⟨b,off,c,cells,e',ro,rfl,C,E,h4,h5,h6⟩
 ·have u:k=0:=by simpa using hk
  subst u;refine⟨.au,?_,.inl ⟨by simp,Z⟩⟩;unfold fD;rw[hu,hx];dsimp only;unfold dc
  simp_all
 have fin:∀c',Ni j.size k c'->bJ K j.size R (la.take k) (.slice b off k c'):=fun c' z=>by
  refine .inr ⟨b,off,c',cells,e',ro,by rw[hlen],by rw[hlen];exact z,E,?_,by rw[hlen];omega,fun i x aa=>?_⟩
  ·rw[hlen];have:k*j.size<=la.length*j.size:=nM_ _ hk;omega
  grind
 rcases C with rfl | ⟨cp,rfl,ab⟩
 ·refine⟨.slice b off k (.upto j.size),?_,fin _ (.inl Z)⟩;unfold fD;rw[hu,hx];dsimp only;unfold dc
  simp_all
 refine⟨.slice b off k (.known cp),?_,fin _ (.inr ⟨cp,Z,by omega⟩)⟩;unfold fD;rw[hu,hx];dsimp only;unfold cutAt dc;dsimp only;rw[hb _ B];dsimp only;unfold cut
 simp_all
theorem Ib {α:Type} {m e k:Nat} {kk:IntKind} {R:α->List V->Prop} {la:List α} {v:V} {ty:TypeId} {xo hi:Operand} {t':V->PT V} (h:bJ K m R la v) (hk:k<=la.length) (hw:bS ops t o=some true) (u:o.op= .slice ty xo none (some hi) none)
  (hu:P.underlying ty=some (.slice e)) (hj:(P.info? e).map (·.size)=some m) (hx:bI G t xo=some v) (z:bI G t hi=some (.int kk (.ofNat k))) (hp:∀v,dG t n o.dst v=some (t' v))
  (hc:∀w,bJ K m R (la.take k) w->bV P G ops n l (t' w) U Q):bV P G ops n (o::l) t U Q:=by
 obtain⟨w,h1,A⟩:=yy (P:=P) h hk hu hj hx z;refine O hw ?_ (hp w)<|hc w A;rw[u];exact bf Z h1
end
theorem cR {g:XG} (h:cu g=0):g.threads.length<=4/\g.init.length<=6/\(∀l∈g.threads,l.length<=14)/\g.from_.length=g.threads.length/\g.order.length=g.init.length/\lY g g.threads g.from_ 0=true/\eZ g=true:=by
 unfold cu at h;cases h1:eV g with
 | true=>rw[h1] at h;cases h
 | false=>
  rw[h1] at h;simp only[cond_false] at h;cases u:D (.ofNat g.from_.length) (.ofNat g.threads.length) with
  | false=>rw[u] at h;cases h
  | true=>
   rw[u] at h;simp only[cond_true] at h;cases z:D (.ofNat g.order.length) (.ofNat g.init.length) with
   | false=>rw[z] at h;cases h
   | true=>
    rw[z] at h;simp only[cond_true] at h;cases h4:lY g g.threads g.from_ 0 with
    | false=>rw[h4] at h;cases h
    | true=>
     rw[h4] at h;simp only[cond_true] at h;cases h5:eZ g with
     | false=>rw[h5] at h;cases h
     | true=>
      unfold eV at h1;cases A:bR 4 (.ofNat g.threads.length) with
      | true=>simp_all
      | false=>
       rw[A] at h1;simp only[cond_false] at h1;cases k2:bR 6 (.ofNat g.init.length) with
       | true=>simp_all
       | false=>
        rw[k2] at h1;simp only[cond_false] at h1;refine⟨br (a:=4) A,br (a:=6) k2,fun l hl=>?_,dA u,dA z,Z,Z⟩;have:=List.any_eq_false.1 h1 l hl;exact br (a:=14) (by simpa using this)
theorem Hg {a b:Nat} (h:a+b<=9223372036854775807):wr .i64 (Int.add (.ofNat a) (.ofNat b))= .ofNat (a+b):=by
 show(bif Nat.ble (a+b) 9223372036854775807 then _ else _)=_
 grind [nE_]
def og {α:Type} (ls:List (List α)):Nat:=(ls.map List.length).sum
def Ez (g:XG):Nat:=bif D (cu g) 0 then g.init.length+og g.threads else 0
end Go.Ev
namespace Go.Ev
variable [Env]
theorem s5 {a:Int} (h:D a 0=true):a=0:=by rw[dE] at h;simp_all
theorem lz {a b:Nat} (h:b<=a) (h':a<=9223372036854775807):wr .i64 (Int.sub (.ofNat a) (.ofNat b))= .ofNat (a-b):=by
 have e:Int.sub (.ofNat a) (.ofNat b)= .ofNat (a-b):=by
  grind
 rw[e];show(bif Nat.ble (a-b) 9223372036854775807 then _ else _)=_
 grind [nE_]
theorem Js {g:XG} {th ix:Int} (h:(fE g ⟨th,ix⟩).isSome=true):∃t i:Nat,th= .ofNat t/\ix= .ofNat i/\t<=g.threads.length/\(t=0->i<g.init.length)/\∀m,t=m+1->∃l,g.threads[m]?=some l/\i<l.length:=by
 cases th with
 | negSucc t=>cases h
 | ofNat t=>cases ix with
  | negSucc i=>cases t<;>cases h
  | ofNat i=>
   refine⟨t,i,Z,Z,?_,?_,?_⟩
   ·cases t with
    | zero=>exact Nat.zero_le _
    | succ t=>
     have h:((g.threads[t]?).bind (·[i]?)).isSome=true:=h
     grind
   ·rintro rfl;have h:((g.init[i]?).map fun v=>(⟨2,i,1,0,v⟩:de)).isSome=true:=h
    simp_all
   rintro m rfl;have h:((g.threads[m]?).bind (·[i]?)).isSome=true:=h
   grind
section
variable {U:I} {K K':H} {L:Own}
theorem J.weaken (h:J U K' L) (hk:H.le K K'):J U K L where
 kept b o hb:=h.kept b o (hk b o hb)
 own:=h.own
 ne:=h.ne
def H.gF (K:H) (M:Own):H:=fun b o=>K b o∨(b,o)∈M
theorem H.bY (K:H) (M:Own):H.le K (K.gF M):=fun _ _ h=>.inl h
theorem H.gP {M:Own} (k:Nat) {b:Nat} {o:cM} (h:M[k]?=some (b,o)):K.gF M b o:=.inr (gB_ h)
theorem J.keeps {M:Own} (h:J U K (M++L)):J U (K.gF M) L where
 kept b o hb:=by
  rcases hb with hb | hb
  ·exact h.aR.kept b o hb
  obtain⟨h1,u⟩:=h.own _ (List.mem_append_left _ hb);exact⟨h1,u,fun e he z=>(List.pairwise_append.1 h.ne).2.2 _ hb e he z.symm⟩
 own e he:=h.own e (List.mem_append_right _ he)
 ne:=(List.pairwise_append.1 h.ne).2.1
end
section
variable {P:Program} {G:Cx} {K K':H}
def NH (P:Program) (G:Cx) (K:H) (n:Int) (vs:List V):Prop:=
 ∃(f:Nat) (ca:List V),vs= [.func f [] ca]/\AZ P f=true/\∀(U:I) (L:Own),J U K L->bm P G f ca U fun v U'=>v= .int .i64 n/\J U' K L
def wB (P:Program) (G:Cx) (K:H) (l:List Int) (cells:List V):Prop:=l.length=cells.length/\∀(i:Nat) (x:Int),l[i]?=some x->∃c,cells[i]?=some c/\NH P G K x [c]
theorem wB.nil:wB P G K [] []:=⟨Z,fun i x h=>by simp at h⟩
theorem wB.cons {x:Int} {l:List Int} {c:V} {cells:List V} (h:NH P G K x [c]) (u:wB P G K l cells):wB P G K (x::l) (c::cells):=by
 refine⟨by simp[u.1],fun i y hy=>?_⟩;cases i with
 | zero=>simp_all
 | succ i=>exact u.2 i y (by simpa using hy)
theorem wB.slice {l:List Int} {cells:List V} (h:wB P G K l cells) {b e n c:Nat} (hk:K b (.row cells e false)) (u:l.length=n) (hc:n<=c) (hl:n<=9223372036854775807):bJ K 1 (NH P G K) l (.slice b 0 n (.known c)):=by
 subst u;refine .inr ⟨b,0,_,cells,e,false,Z,.inr ⟨_,Z,hc⟩,hk,by rw[h.1];omega,hl,fun i x hx=>?_⟩;obtain⟨c,hc,z⟩:=h.2 i x hx
 have:(cells.drop (0+i*1)).take 1= [c]:=by
  obtain⟨aa,rfl⟩:=gA.1 hc
  grind [List.drop_eq_getElem_cons]
 rw[this];exact z
theorem Er {f:Nat} {args:List V} {U:I} {M L:Own} {u:V} (h:bm P G f args U fun v U'=>v=u/\J U' (K.gF M) L):bm P G f args U fun v U'=>v=u/\J U' K L:=
 h.mono fun _ _ ⟨a,b⟩=>⟨a,b.weaken<|K.bY M⟩
theorem bW {ev:Operand->Option V} {U:I} {t e:TypeId} {len m:Nat} {parts:Array (Nat×Operand)} {z cs:List V} (A:P.underlying t=some (.slice e)) (hj:(P.info? e).map (·.size)=some m) (C:(fJ P e).bind cW=some z)
  (hb:(Nat.beq (cY z) m && Nat.ble (len*m) 16777216 && Nat.ble 1 m)=true) (hf:kL (fun i=>some (i*m,m)) ev parts.toList (fq z len)=some cs):dX P G ev U (.buildSlice t len parts)= .val (.slice U.next 0 len (.known len)) (U.alloc (.row cs e false)):=by
 refine uc (mk:=.slice len len) Z ?_;obtain⟨j,u,rfl⟩:=oM_.1 hj;simp only[fO,A,u,C,hb,cond_true,hf]
end
section
variable {P:Program} {G:Cx} {n:Nat} {t:PT V} {U:I} {K:H} {L:Own} {Q:Ex->PT V->I->Prop} {ops:Array Oper} {o:Oper} {l:List Oper} {ix:Nat} {lp:List (Nat×List Nat)}
end
theorem jm (k:IntKind) (n:Int):dZ (.int k n) (.int k n)=true:=by
 unfold Go.Ev.dZ;exact fX k n
theorem Ci (s:List Nat):dZ (.str s) (.str s)=true:=by
 unfold Go.Ev.dZ;exact td s
theorem bJ.dZ {α:Type} {K:H} {m:Nat} {R:α->List V->Prop} {l:List α} {v:V} (h:bJ K m R l v):Go.Ev.dZ v v=true:=by
 have hb:=h.eI;rcases h with ⟨_,rfl⟩ | ⟨b,off,c,cells,e,ro,rfl,hc,_⟩<;>exact hb
def NN (x y:Int):Int:=bif bR x y then-1 else bif bR y x then 1 else 0
def O6 {α:Type} (c:α->α->Int):List α->List α->Int
 | [],[]=>0
 | [],_::_=>-1
 | _::_,[]=>1
 | x::l,y::m=>bif D (c x y) 0 then O6 c l m else c x y
end Go.Ev
end
