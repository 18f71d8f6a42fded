/- Part of the proof: an evaluator of the model's code, rules for walks on it, walks. Without conditions. -/
import Derived.Test.YtpomgjnfncgkgaaGreatDoorEa
import Derived.RecoverIn
import Derived.TacticsIn
import Derived.OrdersIn
import Derived.Sort.LoopGhostIn
import Derived.Scope
import Derived.ProofKit
import Derived.LaidSub
import Derived.KernelRfl
set_option linter.unusedSectionVars false
set_option linter.unusedVariables false
set_option linter.unusedSimpArgs false
noncomputable section
namespace Go.Ev
variable [Env]
theorem vC {p q:Pos} (h:eB.beqP p q=true):p=q:=nB h
theorem KM {c d:ql} (h:eB.beqC c d=true):c=d:=by
 unfold eB.beqC at h
 grind [nB]
theorem Fj {x y:V} (h:eB.jm x y=true):x=y:=by
 unfold eB.jm at h;split at h
 ·grind
 ·rw[bA_,dK,decide_eq_true_eq] at h;rw[pB h.1,h.2]
 ·rw[wk,decide_eq_true_eq] at h;rw[h]
 ·rfl
 ·simp_all
 ·rw[bA_] at h;rw[vC h.1,nB h.2]
 ·rfl
 ·simp only[bA_] at h;grind [vC,nB,KM]
 ·rfl
 ·rw[vC h]
 ·rfl
 ·rfl
 ·simp_all
 ·simp only[bA_] at h;grind [nB,vC]
 cases h
theorem vB:∀{xs ys:List V},eB.beqL xs ys=true->xs=ys
 | [],[],_=>rfl
 | [],_::_,h=>by cases h
 | _::_,[],h=>by cases h
 | x::xs,y::ys,h=>by
  have h':(bif eB.jm x y then eB.beqL xs ys else false)=true:=h;rw[bx] at h';split at h'
  ·rename_i hb;rw[Fj hb,vB h']
  cases h'
theorem KL {x y:V} (h:eB x y=true):x=y:=by
 unfold eB at h;split at h
 ·rw[vB h]
 exact Fj h
theorem Eg (E:Nat->TypeId) {l:List (Nat×List V)} {b:Nat} {o:cN} (h:(I2 l E).get b=some o):∃x∈l,x.1=b/\o= .row x.2 (E x.1) true:=by
 have key:∀(l:List (Nat×List V)) (m:PT cN),(l.foldl (fun m x=>m.put (some (.row x.2 (E x.1) true)) (posOf x.1)) m).get b=some o->(∃x∈l,x.1=b/\o= .row x.2 (E x.1) true)∨m.get b=some o:=by
  intro l;induction l with
  | nil=>simp_all
  | cons x l ih=>
   intro m h;rcases ih _ h with ⟨y,h1,h2⟩ | h
   ·grind
   rw[PT.lF] at h
   grind
 rcases key l _ h with h | h
 ·exact h
 rw[PT.ma] at h;cases h
section
variable {P:Program} {G:Cx} {I:dg} {O:N} {w:World}
theorem Co (u:∀g,G.ov g=true->rJ P g) {ev:Operand->Option V} {f:Operand->Value} {o:Oper} {r:HR} (hi:Inv I O w) (d:ER I ev f o.op) (h:dW P G ev O o.op=r) (b:∀n,r≠ .err n):xV P I O w r ((execOp f o).run P w):=by
 subst h;unfold dW at b⊢;cases hk:kindOf P o.op with
 | pure=>
  rw[hk] at b;dsimp only at b⊢;cases hp:dj P ev o.op with
  | none=>simp_all
  | some v=>
   obtain⟨x,hx,hv⟩:=xi (P:=P) (w:=w) d hp;rw[hx];exact .val hv hi<|eY.refl I O w
 | read=>
  rw[hk] at b;dsimp only at b⊢;cases hp:gp P ev O o.op with
  | none=>simp_all
  | some v=>
   obtain⟨x,hx,hv⟩:=xn (P:=P) hi d hp;rw[hx];exact .val hv hi<|eY.refl I O w
 | alloc=>
  rw[hk] at b;dsimp only at b⊢;cases hp:fP P ev o.op with
  | none=>simp_all
  | some p=>
   obtain⟨ob,mk⟩:=p;obtain⟨x,ob',n,hx,aa,z,hv⟩:=uq (P:=P) (w:=w) d hp;obtain⟨inv,st⟩:=hi.alloc (l:=⟨w.heap.size,0,n⟩) Z z;rw[hx];exact .val (hv _ _<|dg.cV _ _ _) inv st
 | jO=>
  rw[hk] at b;exact B3 u hi d Z b
theorem uR {ev:Operand->Option V} {o:Oper} (b:∀n,dW P G ev O o.op≠ .err n) (c:Call):o.op≠ .defer c:=by
 intro e;rw[e] at b;exact b 16 Z
def Oe (I:dg):Md->FrameMode->Prop
 | .ret,u=>u= .returning
 | .mr v,u=>∃x,u= .panicking [{v:=x,recovered:=false}]/\VR I v x
 | .Qt v,u=>∃x,u= .panicking [{v:=x,recovered:=true}]/\VR I v x
theorem Oe.mono {I I':dg} (h:I.le I'):∀{md:Md} {u:FrameMode},Oe I md u->Oe I' md u
 | .ret,_,h'=>h'
 | .mr _,_,⟨x,h1,b⟩=>⟨x,h1,VR.mono h _ _ b⟩
 | .Qt _,_,⟨x,h1,b⟩=>⟨x,h1,VR.mono h _ _ b⟩
theorem uN {ih:kI} (hS:Sound P G ih) {fn:Func} {m:Nat} {tmps:Array Value} {R:Ending->World->Prop}:∀(d:List DE) (ds:List Deferred) (md:Md) (O:N) (b:Md) (σ₁:N) (I:dg) (w:World) (u:FrameMode),wO P G ih d md O=some (b,σ₁)->DR I d ds->Inv I O w->GR I G->Oe I md u->
  (∀(I':dg) (w':World) (u':FrameMode),Inv I' σ₁ w'->eY I O w I' σ₁ w'->Oe I' b u'->LeavesIn Fence.wide m P fn tmps R [] u' w')->LeavesInM Fence.wide m P fn tmps R ds u w
 | [],ds,md,O,b,σ₁,I,w,u,h,z,hi,A,hm,hk=>by
  have h':some (md,O)=some (b,σ₁):=h;cases h';have:ds= []:=z;subst this;exact hk I w u hi (eY.refl I O w) hm
 | _::_,ds,md,O,b,σ₁,I,w,u,h,z,hi,A,hm,hk=>by cases h
theorem tN {ih:kI} (B:Sound P G ih) {fn:Func} {m n:Nat} {t:PT V} {d:List DE} {md:Md} {r:KR} {a:Act} {u:FrameMode} {R:Ending->World->Prop} (h:xZ P G ih fn md t d O=r) (aa:∀n,r≠ .err n) (hi:Inv I O w) (C:GR I G) (M:TR I t n a.tmps) (F:DR I d a.defers) (hm:Oe I md u)
  (K:∀(I':dg) (w':World) (E:Ending),Inv I' r.heap w'->eY I O w I' r.heap w'->Om I' r E->R E w'):LeavesInM Fence.wide m P fn a.tmps R a.defers u w:=by
 unfold xZ at h;cases hl:wO P G ih d md O with
 | none=>grind
 | some q=>
  obtain⟨A,σ₁⟩:=q;rw[hl] at h;cases A with
  | ret=>
   dsimp only at h;cases L:eX P fn t σ₁ with
   | none=>grind
   | some v=>
    rw[L] at h;subst h;refine uN B d a.defers md O _ _ I w u hl F hi C hm fun I' w' u' z st' b=>?_
    have b:u'= .returning:=b;subst b;obtain⟨x,hx,hv⟩:=yc (P:=P) z (M.mono<|st'.le hi) L;exact⟨x,hx,K I' w' _ z st' ⟨x,Z,hv⟩⟩
  | mr v=>
   dsimp only at h;subst h;refine uN B d a.defers md O _ _ I w u hl F hi C hm fun I' w' u' z st' b=>?_
   obtain⟨x,rfl,hv⟩:=b;exact K I' w' _ z st' ⟨x,Z,hv⟩
  | Qt v=>grind
theorem yu {ih:kI} (B:Sound P G ih) {f:Nat} {args:List V} {xs:Array Value} {r:KR} (h:kM P G ih f args O=r) (A:∀n,r≠ .err n) (hi:Inv I O w) (C:GR I G) (hx:dA I args xs.toList)
  (rl:Option Nat) (m:Nat) {R:Ending->World->Prop} (F:∀(I':dg) (w':World) (E:Ending),Inv I' r.heap w'->eY I O w I' r.heap w'->Om I' r E->R E w'):CallsIn (ow rl) m P f xs w R:=by
 refine r5 rl ?_;unfold kM at h;cases hf:P.funcs[f]? with
 | none=>grind
 | some fn=>
 rw[hf] at h;dsimp only at h;cases hb:fn.body with
 | none=>grind
 | some c=>
 cases K:ra fn.ntmps args with
 | none=>grind
 | some t=>
 rw[hb,K] at h;dsimp only at h;refine callsIn_of_wp_marks hf hb trivial ?_;have ht:=Dr K hx;cases L:ih c t fn.ntmps [] none O with
 | err k=>grind
 | ok e t' d' σ₁=>
  rw[L] at h;have hcode:=fun(Q:Exit->Act->World->Prop) M=>B.run c t fn.ntmps [] none O e t' d' σ₁ L I w {tmps:=xs++Array.replicate (fn.ntmps-xs.size) undef,defers:=[]} none m Q hi C ht Z trivial M
  cases e with
  | normal=>
   refine hcode _ fun I' w' a' d st u z E b=>?_
   have b:E= .normal:=b;subst b;exact tN B h A d (C.mono<|st.le hi) u z (md:=.ret) Z fun ρ₂ w₂ E i₂ s₂ b=>F ρ₂ w₂ E i₂ (st.trans s₂) b
  | ret=>
   refine hcode _ fun I' w' a' d st u z E b=>?_
   have b:E= .ret:=b;subst b;exact tN B h A d (C.mono<|st.le hi) u z (md:=.ret) Z fun ρ₂ w₂ E i₂ s₂ b=>F ρ₂ w₂ E i₂ (st.trans s₂) b
  | mr v=>
   refine hcode _ fun I' w' a' d st u z E b=>?_
   obtain⟨x,rfl,hv⟩:=b;exact tN B h A d (C.mono<|st.le hi) u z (md:=.mr v) ⟨x,Z,hv⟩ fun ρ₂ w₂ E i₂ s₂ b=>F ρ₂ w₂ E i₂ (st.trans s₂) b
  | exit i=>grind
  | goto i=>grind
theorem mK {ih:kI} (b:Sound P G ih) {f:Nat} {args:List V} {xs:Array Value} {O':N} {v:V} (h:kM P G ih f args O= .ret v O') (hi:Inv I O w) (d:GR I G) (hx:dA I args xs.toList)
  (rl:Option Nat) (m:Nat) {R:Ending->World->Prop} (u:∀(I':dg) (w':World) (x:Value),Inv I' O' w'->eY I O w I' O' w'->VR I' v x->R (.returned x) w'):CallsIn (ow rl) m P f xs w R:=
 yu b h (fun n h=>by cases h) hi d hx rl m fun I' w' E i s ⟨x,z,hv⟩=>by subst z;exact u I' w' x i s hv
theorem nz {I I':dg} {v:V} {x:Value} (h:mS v=true) (hv:VR I v x):VR I' v x:=by
 cases v<;>first | (simp[mS] at h;done) | (simp only[VR] at hv⊢;exact hv)
theorem sB {v:V} {l:List V} (h:eL (v::l)=true):mS v=true/\eL l=true:=by
 have h':(bif mS v then eL l else false)=true:=h
 simp_all
theorem kL:∀{l:List V},eL l=true->∀v∈l,mS v=true
 | [],_,v,hv=>by cases hv
 | x::l,h,v,hv=>by
  obtain⟨h1,b⟩:=sB h;rcases mQ_.1 hv with rfl | hv
  ·exact h1
  exact kL b v hv
theorem um {I I':dg}:∀{vs:List V} {xs:List Value},eL vs=true->dA I vs xs->dA I' vs xs
 | [],xs,_,h=>by rw[h.eV];exact dA.nil
 | v::vs,xs,h,hv=>by
  obtain⟨h1,b⟩:=sB h;obtain⟨x,r,rfl,h3,h4⟩:=hv.cons_inv;exact dA.cons (nz h1 h3)<|um b h4
theorem GU {x y:V} (h:zV x y=true):x=y:=by
 unfold zV at h;split at h
 ·grind
 ·rw[bA_,dK,decide_eq_true_eq] at h;rw[pB h.1,h.2]
 ·rw[wk,decide_eq_true_eq] at h;rw[h]
 ·rfl
 ·rfl
 ·rfl
 ·rfl
 ·rfl
 cases h
theorem oo:∀{xs ys:List V},kA xs ys=true->xs=ys
 | [],[],_=>rfl
 | [],_::_,h=>by cases h
 | _::_,[],h=>by cases h
 | x::xs,y::ys,h=>by
  have h':(bif zV x y then kA xs ys else false)=true:=h;rw[bx] at h';split at h'
  ·rename_i hb;rw[GU hb,oo h']
  cases h'
theorem tc (v:V):∀(n:Nat),F6 n v=List.replicate n v
 | 0=>rfl
 | n+1=>by show v::F6 n v=_;rw[tc v n,List.replicate_succ]
theorem jK.inv {w w':World} (hk:jK w w') (hi:Inv I O w):Inv I O w'/\eY I O w I O w':=
 hi.of ⟨⟨hi.fresh,fun b l hb=>Nat.lt_of_lt_of_le (hi.dN b l hb) hk.size,fun b o l hb hl=>let ⟨x,hx,d⟩:=hi.obj b o l hb hl;⟨x,by rw[hk.same _<|hi.dN b l hl];exact hx,d⟩,hi.inj⟩,
  ⟨fun _ _=>Z,nR_ _,hk.size,fun r u _=>hk.same r u,fun _ h _=>h,hk.tape,hk.os,hk.out⟩⟩
theorem FD {b vb:Pos} {o o':cN} (x:Pos):(fe O b o vb o').m.get x=if x=vb then some o' else if x=b then some o else none:=by
 unfold fe;rw[PT.lF,PT.lF,PT.ma]
theorem L1 (hi:Inv I O w) {b vb:Pos} {o o₁ o':cN} {l:Loc} (hb:O.m.get b=some o) (aa:O.m.get vb=some o') (hl:I b=some l) (ab:o.ro=o₁.ro)
  (ho:∀x,gK I l o x->gK I l o₁ x):Inv I (fe O b o₁ vb o') w:=by
 have back:∀x q,(fe O b o₁ vb o').m.get x=some q->∃q',O.m.get x=some q'/\q.ro=q'.ro/\((x=b/\q=o₁)∨q=q'):=fun x q h=>by
  rw[FD] at h
  grind
 refine⟨⟨fun x hx=>⟨(hi.fresh x hx).1,?_⟩,hi.dN,fun x q lx hx d=>?_,fun x y q r lx ly hx hy d u he z=>?_⟩,hi.rB.size,hi.rB.same,fun r B ⟨x,q,l',h1,A,h3,h4⟩=>?_⟩
 ·cases hq:(fe O b o₁ vb o').m.get x with
  | none=>rfl
  | some q=>
   obtain⟨q',h',_⟩:=back x q hq;rw[(hi.fresh x hx).2] at h';cases h'
 ·obtain⟨q',h',_,h''⟩:=back x q hx;obtain⟨y,hy,B⟩:=hi.obj x q' lx h' d
  grind
 ·obtain⟨q',h1,A,_⟩:=back x q hx;obtain⟨r',h3,h4,_⟩:=back y r hy;rw[A,h4];exact hi.inj x y q' r' lx ly h1 h3 d u he z
 obtain⟨q',h5,C,_⟩:=back x q h1;exact hi.rB.no r B ⟨x,q',l',h5,by rw[<-C];exact A,h3,h4⟩
theorem G4 (hi:Inv I O w) {b vb:Pos} {cells cells' vc:List V} {e ve:Nat} {l lv:Loc} (hb:O.m.get b=some (.row cells e false)) (F:O.m.get vb=some (.row vc ve false)) (M:I b=some l) (u:I vb=some lv)
  (ac:b≠vb) {ρ₁:dg} {σ₁:N} {w₁:World} (i₁:Inv ρ₁ σ₁ w₁) (s₁:eY I (fe O b (.row cells' e false) vb (.row vc ve false)) w ρ₁ σ₁ w₁) {b₁:Pos} {l₁:Loc} {cs₁:List V} {o₁ k:Nat}
  (g₁:σ₁.m.get b₁=some (.row cs₁ e false)) (hl₁:ρ₁ b₁=some l₁) (gv:σ₁.m.get vb=some (.row vc ve false)) (hne₁:b₁≠vb) (am:eL vc=true) (hk:o₁+k<=cs₁.length) (ao:eL ((cs₁.drop o₁).take k)=true):
  zy (I.with O.next ⟨l₁.dN,l₁.sh+o₁,l₁.cells-o₁⟩) ((O.drop b).alloc (.row ((cs₁.drop o₁).take k) e false)) w₁/\
   eY I O w (I.with O.next ⟨l₁.dN,l₁.sh+o₁,l₁.cells-o₁⟩) ((O.drop b).alloc (.row ((cs₁.drop o₁).take k) e false)) w₁:=by
 have hle:=hi.vN ⟨l₁.dN,l₁.sh+o₁,l₁.cells-o₁⟩;have K:((O.drop b).alloc (.row ((cs₁.drop o₁).take k) e false)).m.get O.next=some (.row ((cs₁.drop o₁).take k) e false):=PT.dE _ _ _
 have aa:∀x,x≠O.next->((O.drop b).alloc (.row ((cs₁.drop o₁).take k) e false)).m.get x=if x=b then none else O.m.get x:=fun x hx=>by
  show((O.m.put none b).put _ O.next).get x=_;rw[PT.dB _ _ _ _ hx,PT.lF]
 have rB:∀x q,x≠O.next->((O.drop b).alloc (.row ((cs₁.drop o₁).take k) e false)).m.get x=some q->x≠b/\O.m.get x=some q:=fun x q hx h=>by
  simp_all
 have hold:∀x lx,x≠O.next->(I.with O.next ⟨l₁.dN,l₁.sh+o₁,l₁.cells-o₁⟩) x=some lx->I x=some lx:=fun x lx hx h=>by rwa[dg.dV I _ hx] at h
 have S:∀x:Pos,x.num<O.next.num->x≠O.next:=fun x hx e=>by simp_all
 have Q:∀r,Wr I (fe O b (.row cells' e false) vb (.row vc ve false)) r->r=l.dN∨r=lv.dN:=fun r ⟨x,q,lx,h1,C,h3,h4⟩=>by
  rw[FD] at h1
  grind
 have wrs:∀r,Wr I (fe O b (.row cells' e false) vb (.row vc ve false)) r->Wr I O r:=fun r h=>by
  rcases Q r h with rfl | rfl
  ·exact⟨b,_,l,hb,Z,M,Z⟩
  exact⟨vb,_,lv,F,Z,u,Z⟩
 have away:∀x q lx,x≠b->x≠vb->O.m.get x=some q->I x=some lx->lx.dN≠l.dN/\lx.dN≠lv.dN:=fun x q lx h1 C h3 h4=>by
  constructor
  ·intro he;have:=(hi.inj x b q _ lx l h3 hb h4 M he h1).2;simp[cN.ro] at this
  intro he;have:=(hi.inj x vb q _ lx lv h3 F h4 u he C).2;simp[cN.ro] at this
 have ab:∀x q lx,x≠b->O.m.get x=some q->I x=some lx->lx.dN≠l₁.dN:=fun x q lx h1 h3 h4 he=>by
  have hlt:=hi.dN x lx h4;have hw:Wr ρ₁ σ₁ lx.dN:=⟨b₁,_,l₁,g₁,Z,hl₁,he.symm⟩
  by_cases C:x=vb
  ·subst C;rw[u] at h4;cases h4;have B:ρ₁ x=some lv:=s₁.ext x (hi.Eo u) |>.trans u;have:=(i₁.inj b₁ x _ _ l₁ lv g₁ gv hl₁ B he.symm hne₁).1;simp[cN.ro] at this
  obtain⟨a1,a2⟩:=away x q lx h1 C h3 h4;rcases Q _ (s₁.wr _ hw hlt) with h | h
  ·exact a1 h
  exact a2 h
 have flatObj:∀{l':Loc} {c:List V} {e':Nat} {y:Obj} {ρa ρb:dg},eL c=true->gK ρa l' (.row c e' false) y->gK ρb l' (.row c e' false) y:=fun hc ho=>by
  obtain⟨c',fr,h1,C,h3,h4,h5⟩:=ho;exact⟨c',fr,h1,C,h3,fun i v hv=>let ⟨z,hz,T⟩:=h4 i v hv;⟨z,hz,nz (kL hc v<|gB_ hv) T⟩,h5⟩
 constructor
 ·refine⟨fun x hx=>?_,fun x lx d=>?_,fun x q lx hx d=>?_,fun x y q r lx ly hx hy d W he R=>?_⟩
  ·have E:O.next.num+1<=x.num:=by simpa [N.alloc,N.drop,Pos.iu] using hx
   have A:x≠O.next:=fun e=>by subst e;omega
   have hf:=hi.fresh x oM
   grind [dg.dV]
  ·by_cases A:x=O.next
   ·subst A;rw[dg.cV] at d;cases d;exact i₁.dN b₁ l₁ hl₁
   exact Nat.lt_of_lt_of_le (hi.dN x lx<|hold x lx A d) s₁.size
  ·by_cases A:x=O.next
   ·subst A;rw[K] at hx;rw[dg.cV] at d;cases hx;cases d;obtain⟨c,fr,h1,C,h3,h4,h5⟩:=i₁.row g₁ hl₁;refine⟨_,h1,c,fr,Z,?_,?_,fun i v hv=>?_,fun _ j hj=>h5 Z j (by grind)⟩
    ·grind
    ·grind
    grind [nz,kL]
   obtain⟨ap,E⟩:=rB x q A hx;have hlx':=hold x lx A d
   by_cases X:x=vb
   ·subst X;rw[F] at E;cases E;rw[u] at hlx';cases hlx';have B:ρ₁ x=some lv:=(s₁.ext x<|hi.Eo u).trans u;obtain⟨y,hy,L⟩:=i₁.obj x _ lv gv B
    grind
   obtain⟨y,hy,L⟩:=hi.obj x q lx E hlx';refine⟨y,?_,L.mono hle⟩;rw[s₁.frame _ (hi.dN x lx hlx') (fun h=>?_)]
   ·exact hy
   grind
  by_cases e1:x=O.next<;>by_cases e2:y=O.next
  ·simp_all
  ·grind [dg.cV]
  ·grind [dg.cV]
  exact hi.inj x y q r lx ly (rB x q e1 hx).2 (rB y r e2 hy).2 (hold x lx e1 d) (hold y ly e2 W) he R
 refine⟨fun x hx=>dg.dV I _ (S x hx),by simp[N.alloc,N.drop,Pos.iu],s₁.size,fun r L hn=>s₁.frame r L fun h=>hn (wrs r h),?_,s₁.tape,s₁.os,s₁.out⟩;rintro r ⟨x,q,lx,h1,C,h3,rfl⟩ L
 by_cases e1:x=O.next
 ·subst e1;rw[dg.cV] at h3;cases h3;exact wrs _ (s₁.wr _ ⟨b₁,_,l₁,g₁,Z,hl₁,Z⟩ L)
 exact⟨x,q,lx,(rB x q e1 h1).2,C,hold x lx e1 h3,Z⟩
theorem Ed (hi:Inv I O w) {b vb:Pos} {cells cells' vc:List V} {e ve:Nat} {l lv:Loc} (hb:O.m.get b=some (.row cells e false)) (d:O.m.get vb=some (.row vc ve false)) (u:I b=some l) (z:I vb=some lv)
  (A:b≠vb) {ρ₁:dg} {σ₁:N} {w₁:World} (i₁:Inv ρ₁ σ₁ w₁) (s₁:eY I (fe O b (.row cells' e false) vb (.row vc ve false)) w ρ₁ σ₁ w₁) {b₁:Pos} {l₁:Loc} {cs₁:List V} {o₁ k:Nat}
  (g₁:σ₁.m.get b₁=some (.row cs₁ e false)) (hl₁:ρ₁ b₁=some l₁) (gv:σ₁.m.get vb=some (.row vc ve false)) (hne₁:b₁≠vb) (B:eL vc=true) (hk:o₁+k<=cs₁.length) (C:eL ((cs₁.drop o₁).take k)=true):
  Inv (I.with O.next ⟨l₁.dN,l₁.sh+o₁,l₁.cells-o₁⟩) ((O.drop b).alloc (.row ((cs₁.drop o₁).take k) e false)) w₁/\
   eY I O w (I.with O.next ⟨l₁.dN,l₁.sh+o₁,l₁.cells-o₁⟩) ((O.drop b).alloc (.row ((cs₁.drop o₁).take k) e false)) w₁:=hi.of (G4 hi hb d u z A i₁ s₁ g₁ hl₁ gv hne₁ B hk C)
theorem En {r:KR} {v:V} {O':N} (h:sd r= .ret v O'):r= .ret v O':=by
 unfold sd at h
 grind
theorem Em (r:KR) (v:V) (O':N):sd r≠ .mr v O':=by
 unfold sd
 grind
theorem DV {ih:kI} (hS:Sound P G ih) {f:Nat} {args:List V} {xs:Array Value} {O':N} {v:V} (h:FC P G ih f args O= .ret v O') (hi:Inv I O w) (hg:GR I G) (hx:dA I args xs.toList)
  (rl:Option Nat) (m:Nat) {R:Ending->World->Prop} (W:∀(I':dg) (w':World) (x:Value),Inv I' O' w'->eY I O w I' O' w'->VR I' v x->R (.returned x) w'):CallsIn (ow rl) m P f xs w R:=by
 unfold FC at h;split at h
 ·rename_i b off n sz i vb voff q mc;split at h
  ·rename_i cells e vc ve hb E;rw[bx] at h;split at h
   ·rename_i hc;simp only[bA_,nE_,Nat.beq_eq,bN] at hc;obtain⟨F,bb,X,be,ab,hlen⟩:=hc;subst X;have K:b≠vb:=fun e=>by subst e;rw[oH] at F;simp at F
    split at h
    ·rename_i n1 r1 n2 r2 ac am;rw[bx] at h;split at h
     ·rename_i hq;rw[bA_] at hq;have en:=nB hq.1;have er:=oo hq.2;subst en;subst er;cases h;obtain⟨x1,rr,e1,hs,ao⟩:=hx.cons_inv;obtain⟨x2,rr',rfl,bi,ap⟩:=ao.cons_inv;obtain⟨x3,rr'',rfl,aq,ar⟩:=ap.cons_inv;have:=ar.eV;subst this;simp only[VR] at hs;obtain⟨l,hl,hd⟩:=hs
      have aE:∃c,x1= .slice (some ⟨l.dN,l.sh+off,none⟩) n c/\n<=c/\off+c*sz=l.cells:=by
       grind
      obtain⟨c,rfl,bo,aa⟩:=aE;have hvv':=aq;simp only[VR] at hvv';obtain⟨lv,a0,_⟩:=hvv'
      have go:∀(cells':List V) (cap:ql) (okc:ql->Nat->Bool),(∀x,gK I l (.row cells e false) x->gK I l (.row cells' e false) x)->
        qA vb vc ve e sz (kM P G ih f [.slice b off n cap,i,.slice vb voff 1 (.known mc)]<|fe O b (.row cells' e false) vb (.row vc ve false)) okc=some (n1,r1)->
        VR I (.slice b off n cap) (.slice (some ⟨l.dN,l.sh+off,none⟩) n c)->
        (∀z u A n1 l1 B x,okc z n1=true->1<=n1->B u=some l1->VR B (.slice u A n1 z) x->∃c',x= .slice (some ⟨l1.dN,l1.sh+A,none⟩) n1 c'/\n1<=c'/\A+c'*sz=l1.cells)->
        CallsIn (ow rl) m P f xs w R:=by
       intro cells' cap okc L d ba a1;unfold qA at d;split at d
       ·rename_i u A bq z σ1 C;split at d
        ·rename_i br bs bt bv g1 gv;rw[bx] at d;split at d
         ·rename_i M;simp only[bA_,nE_,Nat.beq_eq,bN] at M;obtain⟨k1,k2,k3,k4,k5,k6,k7,k8⟩:=M;cases d;have Q:u≠vb:=fun e=>by subst e;rw[oH] at k2;simp at k2
          have ev:=oo k3;subst ev;subst k4;subst k5;have hiL:=L1 hi (o₁:=.row cells' e false) hb E hl Z L;refine mK hS C hiL hg ?_ rl m fun B w1 x i1 s1 S=>?_
          ·grind [dA.cons]
          obtain⟨l1,T⟩:∃l1,B u=some l1:=by
           cases z<;>simp only[VR] at S
           ·grind
           ·grind
           grind
          obtain⟨c',rfl,a2,bw⟩:=a1 z u A n1 l1 B x k1 k6 T S;rw[dp,dQ] at k8 W;obtain⟨iJ,sJ⟩:=Ed (k:=n1*sz) hi hb E hl a0 K i1 s1 g1 T gv Q ab k7 k8;refine W _ w1 _ iJ sJ ?_;simp only[VR];refine⟨_,dg.cV _ _ _,.inl ⟨c',Z,a2,?_⟩⟩
          grind
         cases d
        cases d
       cases d
      by_cases a3:c=n
      ·subst a3;refine go cells (.known c) (Ec sz) (fun _ h=>h) ac (by simp only[VR];simp_all) fun z u A n1 l1 B x h1 h2 h3 h4=>?_
       unfold Ec at h1
       grind [nB,VR]
      have a4:n+1<=c:=by omega
      refine go (gE (takeN cells (off+n*sz))<|F6 sz .any) (.least (Nat.succ n) sz) (Ag sz) (fun x ho=>?_) am (by simp only[VR];simp_all) fun z u A n1 l1 B x h1 h2 h3 h4=>?_
      ·obtain⟨cc,fr,h1,h2,h3,h4,h5⟩:=ho;have hmul:(n+1)*sz<=c*sz:=nM_ _ a4;have b0:(n+1)*sz=n*sz+sz:=Nat.succ_mul n sz;refine⟨cc,fr,h1,h2,?_,fun j v hv=>?_,h5⟩
       ·rw[dX,dp,tc,lA_,lT_,List.length_replicate];omega
       rw[dX,dp,tc] at hv
       by_cases hj:j<off+n*sz
       ·grind
       have a5:j<(cells.take (off+n*sz)++List.replicate sz V.any).length:=(gA.1 hv).1;rw[lA_,lT_,List.length_replicate] at a5;rw[gR_ (by simp_all),List.getElem?_replicate] at hv;split at hv
       ·cases hv;have:l.sh+j<cc.size:=by omega
        exact⟨cc[l.sh+j],aG_ this,by simp only[VR]⟩
       cases hv
      unfold Ag at h1;split at h1
      ·rename_i a s;rw[bA_,nE_] at h1
       grind [nB,VR]
      cases h1
     cases h
    cases h
   cases h
  cases h
 exact mK hS h hi hg hx rl m W
theorem GR.size (hi:Inv I O w) (b:GR I G):G.gl<=w.heap.size:=by
 cases aa:G.gl with
 | zero=>exact Nat.zero_le _
 | succ g=>
  obtain⟨c,d⟩:=b g oM;have:=hi.dN _ _ d;exact this
theorem sU (hi:Inv I O w) (A:GR I G):∀(l:List (Nat×List V)),ng G.gl O l=true->∀x∈l,kV w x
 | [],_,x,hx=>by cases hx
 | y::l,h,x,hx=>by
  have h':(bif Nat.ble (Nat.succ y.1) G.gl then(match O.m.get y.1 with
   | some (.row cells _ true)=>bif eL y.2 then(bif kA cells y.2 then ng G.gl O l else false) else false
   | _=>false) else false)=true:=h
  rw[bx] at h';split at h'
  ·rename_i b;rw[nE_] at b;split at h'
   ·rename_i cells e hb;rw[bx] at h';split at h'
    ·rename_i hf;rw[bx] at h';split at h'
     ·rename_i he;have:=oo he;subst this;rcases mQ_.1 hx with rfl | hx
      ·obtain⟨cn,B⟩:=A x.1 b;obtain⟨c,fr,h1,C,h3,h4,_⟩:=hi.row hb B;have d:c.size=cn:=by simpa using C
       have u:x.2.length<=cn:=h3;refine⟨c,e,fr,h1,by rw[d];exact u,fun i v hv=>?_⟩;obtain⟨z,E,aa⟩:=h4 i v hv;simp only[nA_] at E
       grind [nz,kL]
      exact sU hi A l h' x hx
     cases h'
    cases h'
   cases h'
  cases h'
theorem vZ {ih:kI} (b:Sound P G ih) {f:Nat} {args:List V} {xs:Array Value} {O':N} {v:V} (h:lY P G ih f args O= .ret v O') (hi:Inv I O w) (d:GR I G) (hx:dA I args xs.toList)
  (rl:Option Nat) (m:Nat) {R:Ending->World->Prop} (E:∀(I':dg) (w':World) (x:Value),Inv I' O' w'->eY I O w I' O' w'->VR I' v x->R (.returned x) w'):CallsIn (ow rl) m P f xs w R:=by
 unfold lY at h;cases hk:G.HS f args O with
 | some u=>
  rw[hk] at h;dsimp only at h;rw[bx] at h;split at h
  ·rename_i hf;cases h;refine r5 rl<|callsIn_wide.2 ?_;refine(b.cx.HS f args O v hk I w xs hi hx).mono fun e w' ⟨x,I',he,hv,i',s'⟩=>?_
   grind
  cases h
 | none=>
 rw[hk] at h;dsimp only at h;cases z:G.HU f args with
 | some u=>
  rw[z] at h;dsimp only at h;rw[bx] at h;split at h
  ·rename_i hf;simp only[bA_] at hf;obtain⟨A,B,C⟩:=hf;cases h;refine r5 rl<|callsIn_wide.2 ?_;refine(b.cx.HU f args v z w xs (GR.size hi d) ⟨hi.rB.size,hi.rB.same⟩ (sU hi d _ C)<|um A hx).mono fun e w' ⟨x,he,hv,hk⟩=>?_
   subst he;obtain⟨i',s'⟩:=hk.inv hi;exact E I w' x i' s'<|nz B hv
  cases h
 | none=>
  rw[z] at h;dsimp only at h;split at h
  ·cases h
  rw[bx] at h;split at h
  ·have h:=En h;unfold pG at h;rw[bx] at h
   grind [mK,DV]
  exact mK b h hi d hx rl m E
theorem Ia {ih:kI} (b:Sound P G ih) {f:Nat} {args:List V} {xs:Array Value} {O':N} {v:V} (h:lY P G ih f args O= .mr v O') (hi:Inv I O w) (d:GR I G) (hx:dA I args xs.toList)
  (rl:Option Nat) (m:Nat) {R:Ending->World->Prop} (z:∀(I':dg) (w':World) (x:Value),Inv I' O' w'->eY I O w I' O' w'->VR I' v x->R (.panicked [{v:=x,recovered:=false}]) w'):CallsIn (ow rl) m P f xs w R:=by
 unfold lY at h;cases hk:G.HS f args O with
 | some u=>grind
 | none=>
 rw[hk] at h;dsimp only at h;split at h
 ·grind
 split at h
 ·cases h
 rw[bx] at h;split at h
 ·exact absurd h<|Em _ _ _
 exact yu b h (fun n h=>by cases h) hi d hx rl m fun I' w' E i s ⟨x,A,hv⟩=>by subst A;exact z I' w' x i s hv
theorem GS {ih:kI} (u:Sound P G ih) {o:Oper} {r:HR} {res:Result Next} {v:V} {O':N} (hi:Inv I O w) (z:GR I G) (A:xV P I O w r res) (h:lE P G ih r= .ret v O') (rl:Option Nat) (m:Nat) {a:Act} {next:Act->World->Prop} {Q:Exit->Act->World->Prop}
  (d:∀(I':dg) (w':World) (x:Value),Inv I' O' w'->eY I O w I' O' w'->VR I' v x->next (a.put o.dst x) w'):o.uponIn (ow rl) m P a next Q res:=by
 cases A with
 | val hv b st=>
  cases h;rw[Oper.uponIn_value]
  grind
 | skip b st=>
  cases h;rw[Oper.uponIn_skip];exact d _ _ _ b st vz
 | enter hv=>
  rw[Oper.uponIn_enter];exact⟨yJ rl m,vZ u h hi z hv rl _ fun I' w' x i s q=>d I' w' x i s q⟩
 | round hv hl hr=>cases h
 | mr hv=>cases h
theorem K7 {ih:kI} (d:Sound P G ih) {o:Oper} {r:HR} {res:Result Next} {v:V} {O':N} (hi:Inv I O w) (u:GR I G) (z:xV P I O w r res) (h:lE P G ih r= .mr v O') (rl:Option Nat) (m:Nat) {a:Act} {next:Act->World->Prop} {Q:Exit->Act->World->Prop}
  (A:∀(I':dg) (w':World) (x:Value),Inv I' O' w'->eY I O w I' O' w'->VR I' v x->Q (.panic [{v:=x,recovered:=false}]) a w'):o.uponIn (ow rl) m P a next Q res:=by
 cases z with
 | val hv b st=>cases h
 | skip b st=>cases h
 | enter hv=>
  rw[Oper.uponIn_enter];exact⟨yJ rl m,Ia d h hi u hv rl _ fun I' w' x i s q=>A I' w' x i s q⟩
 | round hv hl hr=>cases h
 | mr hv=>
  cases h
  grind [Oper.uponIn_panic,eY.refl]
theorem zS {ih:kI} {r:HR} {v:V} {O':N} (h:lE P G ih r= .mr v O') (n:Nat):r≠ .err n:=by
 intro e;subst e;cases h
theorem LA {ih:kI} (b:Sound P G ih) {ev:Operand->Option V} {o:Oper} {a:Act} {v:V} {O':N} (hi:Inv I O w) (d:GR I G) (u:ER I ev a.eval o.op) (h:lE P G ih (dW P G ev O o.op)= .mr v O') (rl:Option Nat) (m:Nat) {next:Act->World->Prop} {Q:Exit->Act->World->Prop}
  (z:∀(I':dg) (w':World) (x:Value),Inv I' O' w'->eY I O w I' O' w'->VR I' v x->Q (.panic [{v:=x,recovered:=false}]) a w'):o.wpIn (ow rl) m P a w next Q:=by
 have hne:=zS h;refine⟨fun f _=>qw rl f,?_⟩;rw[Oper.semAt_eq _ _ _<|uR hne];exact K7 b hi d (Co b.cx.ov hi u Z hne) h rl m z
theorem BN {ih:kI} {r:HR} {v:V} {O':N} (h:lE P G ih r= .ret v O') (n:Nat):r≠ .err n:=by
 intro e;subst e;cases h
theorem Cn {ih:kI} (b:Sound P G ih) {ev:Operand->Option V} {o:Oper} {a:Act} {v:V} {O':N} (hi:Inv I O w) (d:GR I G) (u:ER I ev a.eval o.op) (h:lE P G ih (dW P G ev O o.op)= .ret v O') (rl:Option Nat) (m:Nat) {next:Act->World->Prop} {Q:Exit->Act->World->Prop}
  (z:∀(I':dg) (w':World) (x:Value),Inv I' O' w'->eY I O w I' O' w'->VR I' v x->next (a.put o.dst x) w'):o.wpIn (ow rl) m P a w next Q:=by
 have hne:=BN h;refine⟨fun f _=>qw rl f,?_⟩;rw[Oper.semAt_eq _ _ _<|uR hne];exact GS b hi d (Co b.cx.ov hi u Z hne) h rl m z
theorem tY {ih:kI} (E:Sound P G ih) {ops:Array Oper} {n m:Nat} {d:List DE} (rl:Option Nat) {Q:Exit->Act->World->Prop} {e:Ex} {t':PT V} {d':List DE} {O':N}:
  ∀(l:List Oper) (i:Nat),ops.toList.drop i=l->∀(t:PT V) (O:N) (I:dg) (w:World) (a:Act),BV d (tX P G ih ops n d l t O)= .ok e t' d' O'->Inv I O w->GR I G->TR I t n a.tmps->DR I d a.defers->
   (∀(I':dg) (w':World) (a':Act),Inv I' O' w'->eY I O w I' O' w'->TR I' t' n a'.tmps->DR I' d' a'.defers->Qx Q I' e a' w')->wpOpsIn (ow rl) m P ops Q (List.range' i l.length) a w
 | [],i,hl,t,O,I,w,a,h,hi,z,u,A,B=>by
  have h':CR.ok .normal t d O= .ok e t' d' O':=h;cases h';exact B I w a hi (eY.refl _ _ _) u A _ Z
 | o::l,i,hl,t,O,I,w,a,h,hi,z,u,A,B=>by
  have F:ops[i]?=some o:=by
   rw[<-aT_];have:(ops.toList.drop i)[0]?=some o:=by rw[hl];rfl
   simpa using this
  have C:ops.toList.drop (i+1)=l:=by
   rw[<-List.drop_drop,hl];rfl
  have h':BV d (jg P G ih true ops n o t O<|tX P G ih ops n d l)= .ok e t' d' O':=h;unfold jg at h';simp only[List.length_cons,List.range'_succ,wpOpsIn,F];cases hw:bH ops t o with
  | none=>rw[hw] at h';cases h'
  | some b=>
   rw[hw] at h';rw[AY hw u];cases b with
   | false=>
    dsimp only at h';cases hp:dP t n o.dst unit with
    | none=>rw[hp] at h';cases h'
    | some t₁=>
     rw[hp] at h';simp only[Bool.false_eq_true,if_false];exact⟨fun f _=>qw rl f,tY E rl l (i+1) C t₁ O I w _ h' hi z (u.put hp vz) (by rw[put_defers];exact A) B⟩
   | true=>
    dsimp only at h';cases he:lE P G ih (dW P G (bp G t) O o.op) with
    | err k=>rw[he] at h';cases h'
    | mr v σ₁=>
     rw[he] at h';have h':CR.ok (.mr v) t d σ₁= .ok e t' d' O':=h';cases h';simp only[if_true];refine LA E hi z (Mi _ z u) he rl m fun ρ₁ w₁ x hi₁ st₁ hv=>?_
     have hle:=st₁.le hi;exact B ρ₁ w₁ a hi₁ st₁ (u.mono hle) (A.mono hle) _ ⟨x,Z,hv⟩
    | ret v σ₁=>
     rw[he] at h';dsimp only at h';cases hp:dP t n o.dst v with
     | none=>rw[hp] at h';cases h'
     | some t₁=>
      rw[hp] at h';simp only[if_true];refine Cn E hi z (Mi _ z u) he rl m fun ρ₁ w₁ x hi₁ st₁ hv=>?_
      have hle:=st₁.le hi
      exact tY E rl l (i+1) C t₁ σ₁ ρ₁ w₁ _ h' hi₁ (z.mono hle) ((u.mono hle).put hp hv) (by rw[put_defers];exact A.mono hle)
       fun I' w' a' i' s'=>B I' w' a' i' (st₁.trans s')
end
theorem xd {P:Program} {O O':N} (he:∀(b:Pos) (o:cN),O.m.get b=some o->O'.m.get b=some o) {u:Option TypeId} {x:Option V} {v:V} (h:sg P u O x=some v):sg P u O' x=some v:=by
 unfold sg at h⊢
 grind
theorem Hp {P:Program} {ev:Operand->Option V} {O O':N} {op:Op} {v:V} (he:∀b o,O.m.get b=some o->O'.m.get b=some o) (h:gp P ev O op=some v):gp P ev O' op=some v:=by
 cases op with
 | load t x=>
  grind [gp]
 | lookup t x i ok=>
  simp only[gp] at h⊢
  grind
 | call c=>
  grind [gp]
 | convert src dst x=>
  simp only[gp] at h⊢;split at h
  ·grind
  ·split at h
   ·rw[bx] at h⊢;split at h
    ·cases h
    rename_i d;rw[if_neg d];exact xd he h
   cases h
  ·rw[bx] at h⊢;split at h
   ·rename_i d;rw[if_pos d];exact xd he h
   cases h
  cases h
 | _=>exact h
theorem qS {ops:Array Oper} {i j:Nat}:waits ops i j=true↔∃o,ops[i]?=some o/\∃e∈o.after,Region.binds .any e=true/\e.on=j:=by
 unfold waits;cases h:ops[i]? with
 | none=>simp
 | some o=>
  simp only[Option.map_some,Option.getD_some,oJ_,exists_eq_left',bA_,beq_iff_eq,Array.any_iff_exists];constructor
  ·grind
  rintro ⟨e,he,h1⟩;obtain⟨q,hq,rfl⟩:=Array.getElem_of_mem he
  grind
structure Shape (P:Program) (ops:Array Oper) (A:Array Nat):Prop where
 dep:∀i j,waits ops i j=true->j<ops.size
 rM:∀i j,i<ops.size->j<ops.size->rM A i j=true->waits ops i j=true∨∃d,waits ops i d=true/\Ev.rM A d j=true
 uniq:∀i j k,ff ops i=some k->ff ops j=some k->i=j
 look:∀(i:Nat) (o:Oper) (j k:Nat),ops[i]?=some o->ff ops j=some k->k∈slotsOf ops o->Ev.rM A i j=true∨(fW P ops i=false/\(j=i∨Ev.rM A j i=true))
 dst:∀(i:Nat) (o:Oper),ops[i]?=some o->fW P ops i=true->∃k,o.dst=some k
theorem l6 {ops:Array Oper} {i k:Nat} (h:ff ops i=some k):i<ops.size:=by
 grind [ff]
theorem iq {ops:Array Oper} {i:Nat} {o:Oper} (h:ops[i]?=some o):ff ops i=o.dst:=by simp[ff,h]
theorem ju (m i:Nat):hasB m i=m.testBit i:=by
 rw[Nat.testBit_eq_decide_div_mod_eq];show Nat.beq ((m >>> i) &&& 1) 1=_
 grind [Nat.shiftRight_eq_div_pow,Nat.beq]
theorem Nr (w:Nat):Nat.beq (Nat.land w 1) 1=w.testBit 0:=by
 have:=ju w 0;exact this
theorem uu (i j:Nat):(bit i).testBit j=decide (i=j):=by
 show(1 <<< i).testBit j=_;rw[Nat.one_shiftLeft,Nat.testBit_two_pow]
theorem mU (m k j:Nat):(Nat.lor m k).testBit j=(m.testBit j || k.testBit j):=Nat.testBit_or m k j
theorem jZ {j:Nat}:∀{l:List Nat},(ni l).testBit j=true↔j∈l
 | []=>by simp[ni]
 | i::l=>by
  show(Nat.lor (bit i)<|ni l).testBit j=true↔_;rw[mU,uu,Bool.or_eq_true,jZ,mQ_,decide_eq_true_eq]
  grind
theorem zk {m k:Nat} (h:AL m k=true) (j:Nat) (hj:m.testBit j=true):k.testBit j=true:=by
 have e:m &&& k=m:=nB h
 grind
theorem EU {m k:Nat} (h:AL m k=false):∃j,m.testBit j=true/\k.testBit j=false:=by
 apply Classical.byContradiction;intro hn
 have e:m &&& k=m:=Nat.eq_of_testBit_eq fun j=>by
  simp_all
 have:AL m k=true:=by
  show Nat.beq (m &&& k) m=true
  simp_all
 simp_all
theorem rC {j:Nat}:∀{L:List RA} {w:Nat},(wY L w).testBit j=true->∃d x,L[d]?=some x/\w.testBit d=true/\x.a.testBit j=true
 | [],w,h=>by simp[wY] at h
 | x::L,w,h=>by
  have h':(Nat.lor (@Bool.rec (fun _=>Nat) 0 x.a<|Nat.beq (Nat.land w 1) 1)<|wY L<|w >>> 1).testBit j=true:=h;rw[mU,Bool.or_eq_true,Nr] at h';rcases h' with h' | h'
  ·cases hw:w.testBit 0 with
   | true=>rw[hw] at h';exact⟨0,x,Z,hw,h'⟩
   | false=>
    rw[hw] at h';have h'':(0:Nat).testBit j=true:=h';simp at h''
  obtain⟨d,y,h1,b,h3⟩:=rC h';rw[Nat.testBit_shiftRight] at b;exact⟨d+1,y,by simpa using h1,by rw[Nat.add_comm];exact b,h3⟩
theorem sk:∀(rows:List Row) (L:List RA),(JJ rows L).map (·.r)=L.map (·.r)++rows
 | [],L=>by show L.map (·.r)=_;simp
 | r::rows,L=>by
  show(JJ rows<|gE L [⟨r,Nat.lor r.w<|wY L r.w⟩]).map (·.r)=_
  rw[sk rows,dX];simp
theorem Ax {P:Program} {ops:Array Oper} {i:Nat} {o:Oper} (h:ops[i]?=some o):∃x,(iU P ops)[i]?=some x/\x.r=xw P ops o:=by
 have e:=sk (ya (xw P ops) ops.toList) [];rw[lG] at e
 have e':((iU P ops).map (·.r))[i]?=some (xw P ops o):=by
  unfold iU;rw[lG,e];simp[h]
 simp_all
theorem JK {P:Program} {ops:Array Oper} {i:Nat} {x:RA} (h:(iU P ops)[i]?=some x):∃o,ops[i]?=some o/\x.r=xw P ops o:=by
 have e:=sk (ya (xw P ops) ops.toList) [];rw[lG] at e
 have e':((iU P ops).map (·.r))[i]?=ops[i]?.map (xw P ops):=by
  unfold iU;rw[lG,e];simp
 grind
theorem CG {P:Program} {ops:Array Oper} {i j:Nat} {o:Oper} (h:ops[i]?=some o):(xw P ops o).w.testBit j=true↔waits ops i j=true:=by
 rw[qS];show(ni _).testBit j=true↔_;rw[jZ,List.mem_filterMap]
 simp_all
theorem yl {α:Type} {f:Nat->α->Bool}:∀{l:List α} {i:Nat},allI f l i=true->∀(j:Nat) (x:α),l[j]?=some x->f (i+j) x=true
 | [],i,_,j,x,hx=>by simp at hx
 | y::l,i,h,j,x,hx=>by
  have h': @Bool.rec (fun _=>Bool) false (allI f l (i+1)) (f i y)=true:=h;cases hf:f i y with
  | false=>rw[hf] at h';cases h'
  | true=>
   rw[hf] at h';cases j with
   | zero=>simp at hx;subst hx;exact hf
   | succ j=>
    have:=yl h' j x (by simpa using hx);rw[show i+(j+1)=i+1+j by omega];exact this
theorem qm {α:Type} {f:Nat->α->Bool} {l:List α} (h:allI f l 0=true) (j:Nat) (x:α) (hx:l[j]?=some x):f j x=true:=by
 have:=yl h j x hx
 simp_all
theorem lW {a b:Bool} (h:(bif a then b else false)=true):a=true/\b=true:=by cases a<;>simp_all
def zE (P:Program) (ops:Array Oper):Array Nat:=((iU P ops).map (·.a)).toArray
theorem sD {P:Program} {ops:Array Oper} {i j:Nat} {x:RA} (h:(iU P ops)[i]?=some x):rM (zE P ops) i j=x.a.testBit j:=by
 unfold rM zE
 simp_all
theorem B2 {P:Program} {ops:Array Oper} {i:Nat} {o:Oper} (h:ops[i]?=some o):jx P ops i=(xw P ops o).h:=by unfold jx;rw[h];rfl
theorem wT {P:Program} {ops:Array Oper} {i:Nat} {o:Oper} (h:ops[i]?=some o):fW P ops i=(xw P ops o).k:=by unfold fW;rw[h];rfl
theorem Es {i j:Nat} {x y:RA} (h:Jz i x j y=true) (b:y.r.dm=ni y.r.d.toList):Cr i x j y=true:=by
 unfold Jz at h;cases hb:Nat.beq (Nat.land (Nat.lor x.r.dm x.r.s) y.r.dm) 0 with
 | false=>rw[hb] at h;exact h
 | true=>
  have e:(x.r.dm ||| x.r.s) &&& y.r.dm=0:=nB hb;unfold Cr;cases hy:y.r.d with
  | none=>rfl
  | some k=>
   have hk:y.r.dm.testBit k=true:=by rw[b,hy];exact jZ.2 (by simp)
   have h0:((x.r.dm ||| x.r.s) &&& y.r.dm).testBit k=false:=by simp_all
   rw[Nat.testBit_and,hk,Bool.and_true,Nat.testBit_or,Bool.or_eq_false_iff] at h0
   grind [ju]
theorem JY {P:Program} {ops:Array Oper} (h:JX (iU P ops) ops.size=true):Shape P ops (zE P ops):=by
 have key:∀i o,ops[i]?=some o->∃x,(iU P ops)[i]?=some x/\x.r=xw P ops o/\x.r.w<2 ^ ops.size/\(x.r.k=true->x.r.d.isSome=true)/\AL x.a (Nat.lor x.r.w<|wY (iU P ops) x.r.w)=true/\
   ∀j y,(iU P ops)[j]?=some y->Cr i x j y=true:=by
  intro i o b;obtain⟨x,hx,u⟩:=Ax (P:=P) b;have h1:=qm h i x hx;obtain⟨Q,h1⟩:=lW h1;obtain⟨k2,h1⟩:=lW h1;obtain⟨R,h1⟩:=lW h1;refine⟨x,hx,u,?_,fun hk=>?_,R,fun j y hy=>Es (qm h1 j y hy) (by obtain⟨o',_,A⟩:=JK hy;rw[A];rfl)⟩
  ·rw[vD] at Q;have:bit ops.size=2 ^ ops.size:=Nat.one_shiftLeft _;omega
  simp_all
 have pair:∀i o j o' k,ops[i]?=some o->ops[j]?=some o'->o'.dst=some k->(o.dst=some k->j=i)/\(k∈slotsOf ops o->rM (zE P ops) i j=true∨(fW P ops i=false/\(j=i∨rM (zE P ops) j i=true))):=by
  intro i o j o' k b C hk;obtain⟨x,hx,u,_,_,_,hp⟩:=key i o b;obtain⟨y,hy,A⟩:=Ax (P:=P) C;have h1:=hp j y hy;unfold Cr at h1;have E:y.r.d=some k:=by rw[A];exact hk
  rw[E] at h1;have F:(bif (bif hasB x.r.dm k then Nat.beq j i else true) then(bif hasB x.r.s k then(bif hasB x.a j then true else(bif x.r.k then false else(bif Nat.beq j i then true else hasB y.a i))) else true) else false)=true:=h1;obtain⟨g1,z⟩:=lW F;refine⟨fun G=>?_,fun K=>?_⟩
  ·have:hasB x.r.dm k=true:=by
    rw[ju,u];show(ni o.dst.toList).testBit k=true;rw[jZ,G];simp
   simp_all
  have:hasB x.r.s k=true:=by
   rw[ju,u];exact jZ.2 K
  rw[this] at z;simp only[cond_true] at z;rw[sD hx,sD hy,wT (P:=P) b,<-u];cases B:hasB x.a j with
  | true=>rw[ju] at B;exact .inl B
  | false=>
   rw[B] at z;simp only[cond_false] at z;cases L:x.r.k with
   | true=>simp_all
   | false=>
    rw[L] at z;simp only[cond_false] at z;cases hb:Nat.beq j i with
    | true=>simp_all
    | false=>rw[hb] at z;rw[ju] at z;simp_all
 refine⟨fun i j hw=>?_,fun i j hi hj B=>?_,fun i j k hi hj=>?_,fun i o j k b hj hk=>?_,fun i o b hl=>?_⟩
 ·obtain⟨o,b,_⟩:=qS.1 hw;obtain⟨x,hx,u,aa,_⟩:=key i o b;have:x.r.w.testBit j=true:=by rw[u];exact(CG b).2 hw
  apply Classical.byContradiction
  grind [Nat.testBit_lt_two_pow,Nat.lt_of_lt_of_le,Nat.pow_le_pow_right]
 ·have b:ops[i]?=some ops[i]:=aG_ hi;obtain⟨x,hx,u,_,_,K,_⟩:=key i _ b;rw[sD hx] at B;have h1:=zk K j B;rw[mU,Bool.or_eq_true] at h1;rcases h1 with h1 | h1
  ·rw[u] at h1;exact .inl ((CG b).1 h1)
  obtain⟨d,y,hy,M,h3⟩:=rC h1;rw[u] at M;exact .inr ⟨d,(CG b).1 M,by rw[sD hy];exact h3⟩
 ·have hi':=l6 hi;have hj':=l6 hj;have b:ops[i]?=some ops[i]:=aG_ hi'
  grind [iq]
 ·grind [l6,iq]
 obtain⟨x,hx,u,_,E,_⟩:=key i o b;rw[wT (P:=P) b,<-u] at hl;have:=E hl;rw[u] at this;exact Option.isSome_iff_exists.1 this
def Ord (ops:Array Oper):List Nat->Prop
 | []=>True
 | i::r=>(∀j,waits ops i j=true->j∈r)/\Ord ops r
structure HY (P:Program) (ops:Array Oper) (A:Array Nat) (i:Nat) (rc:List Nat) (done:List Nat):Prop where
 lt:i<ops.size
 new:i∉done
 dep:∀j,waits ops i j=true->j∈done
 again:jx P ops i=true->∀j∈done,fW P ops j=true->rM A i j=true∨j∈rc
 alone:jx P ops i=true->∀j,j<ops.size->j∉done->j≠i->∃e,waits ops j e=true/\e∉done
def Fh (P:Program) (ops:Array Oper) (A:Array Nat):List (Nat×List Nat)->List Nat->Prop
 | [],done=>∀i,i<ops.size->i∈done
 | (i,rc)::l,done=>HY P ops A i rc done/\Fh P ops A l (i::done)
theorem v9 {P:Program} {ops:Array Oper}:∀(p:List (Nat×List Nat)) (D_:Nat) (done:List Nat),(∀j,D_.testBit j=true↔j∈done)->Dx (iU P ops) ops.size p D_=true->Fh P ops (zE P ops) p done
 | [],D_,done,z,h=>fun i hi=>by
  have e:D_=bit ops.size-1:=nB h;rw[<-z,e,show bit ops.size=2 ^ ops.size from Nat.one_shiftLeft _,Nat.testBit_two_pow_sub_one]
  simp_all
 | (i,rc)::l,D_,done,z,h=>by
  have h':Option.rec (motive:=fun _=>Bool) false (fun x=>bif IQ (iU P ops) i rc D_ x then Dx (iU P ops) ops.size l (Nat.lor D_<|bit i) else false) (nth (iU P ops) i)=true:=h;rw[eU] at h';cases hx:(iU P ops)[i]? with
  | none=>simp_all
  | some x=>
  rw[hx] at h';obtain⟨h1,E⟩:=lW h';obtain⟨o,A,C⟩:=JK hx;have hlt:=(aS_.1 A).1;unfold IQ at h1;cases hi:hasB D_ i with
  | true=>simp_all
  | false=>
  rw[hi] at h1;obtain⟨hw,h3⟩:=lW h1;refine⟨⟨hlt,fun hm=>?_,fun j hj=>?_,fun hh j hj hl=>?_,fun hh j hj hn aa=>?_⟩,v9 l _ (i::done) (fun j=>?_) E⟩
  ·rw[ju] at hi
   grind
  ·grind [zk,CG]
  ·rw[B2 (P:=P) A,<-C] at hh;rw[hh] at h3
   have u:∃o',ops[j]?=some o':=by
    cases b:ops[j]? with
    | some o'=>exact⟨o',Z⟩
    | none=>unfold fW at hl;simp_all
   obtain⟨o',b⟩:=u;obtain⟨y,hy,w⟩:=Ax (P:=P) b;have h4:=qm h3 j y hy;have d:hasB D_ j=true:=by rw[ju];exact(z j).2 hj
   rw[d] at h4;simp only[cond_true] at h4;rw[sD hx];cases B:hasB x.a j with
   | true=>rw[ju] at B;exact .inl B
   | false=>
    rw[B] at h4;rw[wT (P:=P) b,<-w] at hl;rw[hl] at h4;simp only[cond_true,cond_false] at h4;rw[ju] at h4;exact .inr<|jZ.1 h4
  ·rw[B2 (P:=P) A,<-C] at hh;rw[hh] at h3;have b:ops[j]?=some ops[j]:=aG_ hj;obtain⟨y,hy,w⟩:=Ax (P:=P) b;have h4:=qm h3 j y hy
   have d:hasB D_ j=false:=by
    grind [ju]
   rw[d] at h4;simp only[cond_false] at h4;cases hb:Nat.beq j i with
   | true=>simp_all
   | false=>
    rw[hb] at h4;simp only[cond_false] at h4
    grind [EU,CG]
  rw[mU,uu,Bool.or_eq_true,z,mQ_,decide_eq_true_eq]
  grind
theorem La {P:Program} {ops:Array Oper} (h:tP P ops=true):Shape P ops (zE P ops)/\Fh P ops (zE P ops) (jh P ops) []:=by
 obtain⟨h1,h2⟩:=lW h
 grind [JY,v9]
def Li (listed:Array Bool) (i:Nat):Prop:=listed.getD i false=true
theorem Li.lt {listed:Array Bool} {i:Nat} (h:Li listed i):i<listed.size:=by
 grind [Li]
theorem Jk {listed:Array Bool} {i:Nat} (hi:i<listed.size):listed.getD i true=false↔¬Li listed i:=by
 simp[Li,Array.getD_eq_getD_getElem?,hi]
theorem Df {listed:Array Bool} {i j:Nat} (hi:i<listed.size):Li (listed.setIfInBounds i true) j↔j=i∨Li listed j:=by
 unfold Li;simp only[Array.getD_eq_getD_getElem?,Array.getElem?_setIfInBounds]
 grind
def dN:V->Option Pos
 | .ptr b _=>some b
 | .slice b _ _ _=>some b
 | .map b=>some b
 | _=>none
theorem zJ (mk:Mk) (b:Pos):dN (mk.of b)=some b:=by cases mk<;>rfl
def mI (P:Program) (G:Cx) (t:PT V) (O:N) (I:dg) (lo:Nat) (ti:PT V) (o:Oper):Prop:=
 match kindOf P o.op with
 | .pure=>∃v,dj P (bp G ti) o.op=some v/\∀k,o.dst=some k->t.get (posOf k)=some v
 | .read=>∃v,gp P (bp G ti) O o.op=some v/\∀k,o.dst=some k->t.get (posOf k)=some v
 | .alloc=>∃ob mk b,fP P (bp G ti) o.op=some (ob,mk)/\O.m.get b=some ob/\I b=none/\lo<=b.num/\b.num<O.next.num/\∀k,o.dst=some k->t.get (posOf k)=some (mk.of b)
 | .jO=>False
def qV (P:Program) (G:Cx) (ops:Array Oper) (A:Array Nat) (t₀ t:PT V) (O:N) (I:dg) (lo:Nat) (i:Nat):Prop:=
 ∃o ti,ops[i]?=some o/\
  (∀k∈slotsOf ops o,∀j,rM A i j=true->ff ops j=some k->ti.get (posOf k)=t.get (posOf k))/\
  (∀k∈slotsOf ops o,(∀j,ff ops j=some k->rM A i j=false)->ti.get (posOf k)=t₀.get (posOf k))/\
  ∃bw,bH ops ti o=some bw/\(bw=false->∀k,o.dst=some k->t.get (posOf k)=some unit)/\(bw=true->mI P G t O I lo ti o)
section
variable {P:Program} {G:Cx} {ops:Array Oper} {A:Array Nat} {t₀ t t₁:PT V} {O σ₁:N} {I ρ₁:dg} {lo i:Nat}
theorem wE {o:Oper} {j:Nat} {want:Bool} {k:Nat} (b:o.guard=some (j,want)) (hk:(ops[j]?).bind (·.dst)=some k):k∈slotsOf ops o:=by
 unfold slotsOf;rw[b];simp[hk]
theorem Al {o:Oper} {k:Nat} (h:Operand.tmp k∈o.op.operands):k∈slotsOf ops o:=by
 unfold slotsOf;refine List.mem_append_left _<|List.mem_filterMap.2 ⟨.tmp k,by simpa using h,Z⟩
theorem kE {o:Oper} {ti tj:PT V} (h:∀k∈slotsOf ops o,ti.get (posOf k)=tj.get (posOf k)):bH ops ti o=bH ops tj o:=by
 grind [bH,wE]
theorem qV.Mj (hp:qV P G ops A t₀ t O I lo i) (h:∀k,(ff ops i=some k∨∃j,rM A i j=true/\ff ops j=some k)->t₁.get (posOf k)=t.get (posOf k)):qV P G ops A t₀ t₁ O I lo i:=by
 obtain⟨o,ti,b,h1,u,bw,h3,h4,h5⟩:=hp;have w:∀k,o.dst=some k->t₁.get (posOf k)=t.get (posOf k):=fun k hk=>h k (.inl (by rw[iq b];exact hk))
 refine⟨o,ti,b,fun k hk j d hj=>(h1 k hk j d hj).trans (h k (.inr ⟨j,d,hj⟩)).symm,u,bw,h3,fun hb k hk=>(w k hk).trans (h4 hb k hk),fun hb=>?_⟩
 grind [mI]
theorem qV.grow (hp:qV P G ops A t₀ t O I lo i) (h:∀b o,O.m.get b=some o->σ₁.m.get b=some o) (hn:O.next.num<=σ₁.next.num):qV P G ops A t₀ t σ₁ I lo i:=by
 obtain⟨o,ti,d,h1,u,bw,h3,h4,h5⟩:=hp;refine⟨o,ti,d,h1,u,bw,h3,h4,fun hb=>?_⟩
 grind [mI,Hp]
theorem qV.Ru (hp:qV P G ops A t₀ t O I lo i) (u:Shape P ops A) (h:∀b,(∃o k v,ops[i]?=some o/\kindOf P o.op= .alloc/\ff ops i=some k/\t.get (posOf k)=some v/\dN v=some b)->I b=none->ρ₁ b=none):qV P G ops A t₀ t O ρ₁ lo i:=by
 obtain⟨o,ti,d,h1,w,bw,h3,h4,h5⟩:=hp;refine⟨o,ti,d,h1,w,bw,h3,h4,fun hb=>?_⟩;have:=h5 hb;unfold mI at this⊢;split at this
 ·exact this
 ·exact this
 ·rename_i hk;obtain⟨ob,mk,b,g1,g2,g3,g4,g5,g6⟩:=this;obtain⟨k,aa⟩:=u.dst i o d (by simp[fW,tT,d,hk])
  grind [iq,zJ]
 exact this
theorem qV.again (hp:qV P G ops A t₀ t O I lo i) (Q:Shape P ops A) (h:∀k,(ff ops i=some k∨∃j,rM A i j=true/\ff ops j=some k)->t₁.get (posOf k)=t.get (posOf k))
  (h0:∀k,(∀j,ff ops j≠some k)->t₁.get (posOf k)=t₀.get (posOf k)) (w:fW P ops i=true->ku P G ops t₁ σ₁ i=true)
  (hr:∀b:Pos,b.num<O.next.num->ρ₁ b=I b) (hn:O.next.num<=σ₁.next.num):qV P G ops A t₀ t₁ σ₁ ρ₁ lo i:=by
 have hp1:=hp.Mj h;obtain⟨o,ti,z,h1,C,bw,h3,h4,h5⟩:=hp1;cases hb:bw with
 | false=>exact⟨o,ti,z,h1,C,bw,h3,h4,fun E=>absurd E (by rw[hb];simp)⟩
 | true=>
  have hv:=h5 hb;subst hb;cases hk:kindOf P o.op with
  | pure=>
   refine⟨o,ti,z,h1,C,true,h3,h4,fun _=>?_⟩
   grind [mI]
  | jO=>unfold mI at hv;simp_all
  | read=>
   have hl:fW P ops i=true:=by simp[fW,tT,z,hk]
   have u:∀k∈slotsOf ops o,t₁.get (posOf k)=ti.get (posOf k):=fun k d=>by
    by_cases hw:∃j,ff ops j=some k
    ·obtain⟨j,hj⟩:=hw;rcases Q.look i o j k z hj d with F | ⟨K,_⟩
     ·grind
     simp_all
    simp_all
   have ar:=w hl;unfold ku at ar;rw[z] at ar;dsimp only at ar;rw[kE u,h3] at ar;dsimp only at ar;refine⟨o,t₁,z,fun _ _ _ _ _=>Z,fun k d hj=>(u k d).trans (C k d hj),true,by rw[kE u];exact h3,fun h'=>(by cases h'),fun _=>?_⟩
   grind [mI,KL]
  | alloc=>
   have hl:fW P ops i=true:=by simp[fW,tT,z,hk]
   have u:∀k∈slotsOf ops o,t₁.get (posOf k)=ti.get (posOf k):=fun k d=>by
    by_cases hw:∃j,ff ops j=some k
    ·obtain⟨j,hj⟩:=hw;rcases Q.look i o j k z hj d with F | ⟨K,_⟩
     ·grind
     simp_all
    simp_all
   have ar:=w hl;unfold ku at ar;rw[z] at ar;dsimp only at ar;rw[kE u,h3] at ar;dsimp only at ar;refine⟨o,t₁,z,fun _ _ _ _ _=>Z,fun k d hj=>(u k d).trans (C k d hj),true,by rw[kE u];exact h3,fun h'=>(by cases h'),fun _=>?_⟩;unfold mI at hv⊢;rw[hk] at hv⊢;dsimp only at hv⊢;obtain⟨ob,mk,b,g1,g2,g3,g4,g5,R⟩:=hv;split at ar
   ·rename_i k L;have g6':=R k L;rw[g6'] at ar;dsimp only at ar;rw[hk] at ar;dsimp only at ar;have ab:ρ₁ b=none:=by simp_all
    split at ar
    ·rename_i cs e b' F B;split at ar
     ·rename_i cs' e' M;rw[bA_] at ar;have e1:=nB ar.1;have e2:=vB ar.2;subst e1;subst e2;have aa:b'=b:=by cases mk<;>simp[Mk.of] at B<;>exact B.symm
      grind [Mk.of]
     cases ar
    ·rename_i cs e n c b' n' c' F B;split at ar
     ·rename_i cs' e' M;simp only[bA_] at ar;have e1:=nB ar.1.1.1;have e2:=vB ar.1.1.2;have e3:=nB ar.1.2;have e4:=nB ar.2;subst e1;subst e2;subst e3;subst e4;have ac:b'=b/\mk= .slice n c:=by cases mk<;>simp[Mk.of] at B<;>(simp_all)
      grind
     cases ar
    cases ar
   cases ar
end
theorem my {t t₁:PT V} {n:Nat} {dst:Option Nat} {v:V} (h:dP t n dst v=some t₁):
  (∀k,dst≠some k->t₁.get (posOf k)=t.get (posOf k))/\(∀k,dst=some k->k<n/\t₁.get (posOf k)=some v):=by
 cases dst with
 | none=>cases h;simp_all
 | some j=>
  obtain⟨hj,rfl⟩:=tZ h;refine⟨fun k hk=>PT.dB _ _ _ _ (fun e=>hk (by rw[qI e])),fun k hk=>?_⟩;cases hk;exact⟨hj,PT.dE _ _ _⟩
theorem JF {a:Act} {dst:Option Tmp} {x:Value}:(∀k,dst≠some k->(a.put dst x).tmps.getD k undef=a.tmps.getD k undef)/\(∀k,dst=some k->k<a.tmps.size->(a.put dst x).tmps.getD k undef=x)/\(a.put dst x).tmps.size=a.tmps.size:=by
 cases dst with
 | none=>exact⟨fun _ _=>Z,(fun k hk=>by cases hk),Z⟩
 | some j=>
  refine⟨fun k hk=>?_,fun k hk b=>?_,by simp[Act.put]⟩
  ·have:j≠k:=fun e=>hk (by rw[e])
   simp[Act.put,Array.getD_eq_getD_getElem?,Array.getElem?_setIfInBounds,this]
  cases hk;simp[Act.put,Array.getD_eq_getD_getElem?,Array.getElem?_setIfInBounds,b]
theorem di {α:Type} {x y:α} {l:List α} (h:x∈y::l):x=y∨x∈l:=mQ_.1 h
structure J_ (P:Program) (G:Cx) (ih:kI) (ops:Array Oper) (A:Array Nat) (n:Nat) (d:List DE) (fin:CR) (ρ₀:dg) (σ₀:N) (w₀:World) (t₀:PT V)
  (l:List (Nat×List Nat)) (done:List Nat) (t:PT V) (O:N) (listed:Array Bool) (I:dg) (w:World) (a:Act):Prop where
 run:jP P G ih ops n d l t O=fin
 ok:Fh P ops A l done
 inv:Inv I O w
 My:eY ρ₀ σ₀ w₀ I O w
 dr:DR I d a.defers
 gr:GR I G
 MA:a.tmps.size=n
 KC:listed.size=ops.size
 MS:∀i∈done,i<ops.size
 ord:Ord ops done
 sub:∀i,Li listed i->i∈done
 jO:∀i∈done,jx P ops i=true->Li listed i
 closed:∀i j,j<ops.size->Li listed i->rM A i j=true->Li listed j
 lC:∀i j,j<ops.size->i∈done->rM A i j=true->j∈done
 Og:∀i∈done,∀k,ff ops i=some k->k<n
 CN:∀i k v,Li listed i->ff ops i=some k->t.get (posOf k)=some v->VR I v (a.tmps.getD k undef)
 CM:∀k v,(∀i,Li listed i->ff ops i≠some k)->t₀.get (posOf k)=some v->k<n/\VR I v (a.tmps.getD k undef)
 same:∀k,(∀i∈done,ff ops i≠some k)->t.get (posOf k)=t₀.get (posOf k)
 Cs:∀i∈done,¬Li listed i->qV P G ops A t₀ t O I σ₀.next.num i
 apart:∀i j o o' k k' v v' b,i∈done->j∈done->¬Li listed i->¬Li listed j->ops[i]?=some o->ops[j]?=some o'->kindOf P o.op= .alloc->kindOf P o'.op= .alloc->
  ff ops i=some k->ff ops j=some k'->t.get (posOf k)=some v->t.get (posOf k')=some v'->dN v=some b->dN v'=some b->i=j
section
variable {P:Program} {G:Cx} {ih:kI} {ops:Array Oper} {A:Array Nat} {n:Nat} {d:List DE} {fin:CR} {ρ₀:dg} {σ₀:N} {w₀:World} {t₀:PT V}
variable {l:List (Nat×List Nat)} {done:List Nat} {t:PT V} {O:N} {listed:Array Bool} {I:dg} {w:World} {a:Act}
theorem vU (b:Shape P ops A) {i:Nat} (hi:i<ops.size) (hw:∀j,waits ops i j=true->j∈done) (hd:∀i j,j<ops.size->i∈done->rM A i j=true->j∈done):∀j,j<ops.size->rM A i j=true->j∈done:=fun j hj u=>by
 rcases b.rM i j hi hj u with h | ⟨q,h1,h2⟩
 ·exact hw j h
 grind
theorem vV (b:Shape P ops A) {i:Nat} (hi:i<ops.size) (hw:∀j,waits ops i j=true->Li listed j) (hd:∀i j,j<ops.size->Li listed i->rM A i j=true->Li listed j):∀j,j<ops.size->rM A i j=true->Li listed j:=fun j hj u=>by
 rcases b.rM i j hi hj u with h | ⟨q,h1,h2⟩
 ·exact hw j h
 grind
theorem J_.wG (C:Shape P ops A) (hj:J_ P G ih ops A n d fin ρ₀ σ₀ w₀ t₀ l done t O listed I w a) {i:Nat} {o:Oper} (z:ops[i]?=some o) (B:i∉done):
  ∀k∈slotsOf ops o,(∀j,ff ops j=some k->rM A i j=false)->t.get (posOf k)=t₀.get (posOf k):=fun k hk aa=>by
 refine hj.same k fun j b u=>?_
 rcases C.look i o j k z u hk with h | ⟨_,h | h⟩
 ·simp_all
 ·subst h;exact B b
 exact B<|hj.lC j i (aS_.1 z).1 b h
theorem J_.look (E:Shape P ops A) (hj:J_ P G ih ops A n d fin ρ₀ σ₀ w₀ t₀ l done t O listed I w a) {i:Nat} {o:Oper} {ti:PT V} (z:ops[i]?=some o) (B:¬Li listed i) (F:∀j,j<ops.size->rM A i j=true->Li listed j)
  (h1:∀k∈slotsOf ops o,∀j,rM A i j=true->ff ops j=some k->ti.get (posOf k)=t.get (posOf k)) (K:∀k∈slotsOf ops o,(∀j,ff ops j=some k->rM A i j=false)->ti.get (posOf k)=t₀.get (posOf k)):
  ∀k∈slotsOf ops o,∀v,ti.get (posOf k)=some v->k<n/\VR I v (a.tmps.getD k undef):=fun k hk v hv=>by
 by_cases hw:∃j,ff ops j=some k/\rM A i j=true
 ·obtain⟨j,b,C⟩:=hw;have hL:=F j (l6 b) C;rw[h1 k hk j C b] at hv;exact⟨hj.Og j (hj.sub j hL) k b,hj.CN j k v hL b hv⟩
 have u:∀j,ff ops j=some k->rM A i j=false:=fun j b=>by
  simp_all
 rw[K k hk u] at hv;refine hj.CM k v (fun j hL b=>?_) hv;rcases E.look i o j k z b hk with h | ⟨_,h | h⟩
 ·simp_all
 ·subst h;exact B hL
 exact B<|hj.closed j i (aS_.1 z).1 hL h
theorem FP {ti:PT V} {o:Oper} (b:GR I G) (h:∀k∈slotsOf ops o,∀v,ti.get (posOf k)=some v->k<n/\VR I v (a.tmps.getD k undef)):ER I (bp G ti) a.eval o.op:=fun x hx v hv=>by
 cases x with
 | tmp k=>exact(h k (Al hx) v hv).2
 | const c=>exact jW (t:=.leaf) (n:=a.tmps.size) b ⟨Z,fun k v hk=>by rw[PT.ma] at hk;cases hk⟩ hv
 | global g=>exact jW (t:=.leaf) (n:=a.tmps.size) b ⟨Z,fun k v hk=>by rw[PT.ma] at hk;cases hk⟩ hv
 | func f=>exact jW (t:=.leaf) (n:=a.tmps.size) b ⟨Z,fun k v hk=>by rw[PT.ma] at hk;cases hk⟩ hv
theorem uO {ti:PT V} {o:Oper} {b:Bool} (u:a.tmps.size=n) (h:∀k∈slotsOf ops o,∀v,ti.get (posOf k)=some v->k<n/\VR I v (a.tmps.getD k undef)) (hw:bH ops ti o=some b):Region.wanted o (yielded ops a.tmps)=b:=
 zo hw fun j want k z hk v hv=>by
  have:=h k (wE z hk) v hv;rw[u];exact this
theorem J_.ahead (hs:Shape P ops A) {i:Nat} {rc:List Nat} (hj:J_ P G ih ops A n d fin ρ₀ σ₀ w₀ t₀ ((i,rc)::l) done t O listed I w a) (hl:jx P ops i=false) {o:Oper} (ho:ops[i]?=some o) {v:V} {t₁:PT V} {σ₁:N}
  (hp:dP t n o.dst v=some t₁) (E:jP P G ih ops n d l t₁ σ₁=fin) (hinv:Inv I σ₁ w) (ar:eY I O w I σ₁ w) (F:∀b o,O.m.get b=some o->σ₁.m.get b=some o)
  (ac:∀b,dN v=some b->kindOf P o.op= .alloc->O.next.num<=b.num) (ab:qV P G ops A t₀ t₁ σ₁ I σ₀.next.num i):J_ P G ih ops A n d fin ρ₀ σ₀ w₀ t₀ l (i::done) t₁ σ₁ listed I w a:=by
 obtain⟨hh,S⟩:=hj.ok;obtain⟨f1,f2⟩:=my hp;have K:ff ops i=o.dst:=iq ho;have ao:¬Li listed i:=fun h=>hh.new (hj.sub i h)
 have z:∀j∈done,∀k,ff ops j=some k->t₁.get (posOf k)=t.get (posOf k):=fun j B k hk=>f1 k fun e=>by
  have:=hs.uniq i j k (by rw[K];exact e) hk;subst this;exact hh.new B
 have aa:∀j∈done,¬Li listed j->qV P G ops A t₀ t₁ σ₁ I σ₀.next.num j:=fun j B C=>by
  refine((hj.Cs j B C).Mj fun k hk=>?_).grow F ar.next;rcases hk with hk | ⟨q,hq,hk⟩
  ·grind
  exact z q (hj.lC j q (l6 hk) B hq) k hk
 have am:∀j o' k' v' b,j∈done->¬Li listed j->ops[j]?=some o'->kindOf P o'.op= .alloc->ff ops j=some k'->t₁.get (posOf k')=some v'->dN v'=some b->b.num<O.next.num:=fun j o' k' v' b B C L hk T hv hb=>by
  obtain⟨o'',ti,e,_,_,bw,_,h4,h5⟩:=hj.Cs j B C;rw[L] at e;cases e;rw[z j B k' T] at hv;rw[iq L] at T;cases bw with
  | false=>rw[h4 Z k' T] at hv;cases hv;cases hb
  | true=>
   have:=h5 Z
   grind [mI,zJ]
 refine⟨E,S,hinv,hj.My.trans ar,hj.dr,hj.gr,hj.MA,hj.KC,fun j h=>?_,⟨hh.dep,hj.ord⟩,fun j h=>mC_ _ (hj.sub j h),fun j h hv=>?_,hj.closed,fun j q hq h ha=>?_,fun j h k hk=>?_,fun j k u hL hk hu=>?_,hj.CM,fun k hk=>?_,fun j h C=>?_,?_⟩
 ·rcases di h with rfl | h
  ·exact hh.lt
  exact hj.MS j h
 ·rcases di h with rfl | h
  ·simp_all
  exact hj.jO j h hv
 ·rcases di h with rfl | h
  ·exact mC_ _<|vU hs hh.lt hh.dep hj.lC q hq ha
  exact mC_ _<|hj.lC j q hq h ha
 ·rcases di h with rfl | h
  ·simp_all
  exact hj.Og j h k hk
 ·rw[z j (hj.sub j hL) k hk] at hu;exact hj.CN j k u hL hk hu
 ·rw[f1 k (fun e=>hk i (mS_ ..) (by rw[K];exact e))];exact hj.same k fun j h=>hk j (mC_ _ h)
 ·grind
 intro j q o' o'' k k' u u' b h1 h2 h3 h4 h5 h6 h7 h8 h9 M Q R W X;rcases di h1 with rfl | m1<;>rcases di h2 with rfl | m2
 ·rfl
 ·grind
 ·grind
 rw[z j m1 k h9] at Q;rw[z q m2 k' M] at R;exact hj.apart j q o' o'' k k' u u' b m1 m2 h3 h4 h5 h6 h7 h8 h9 M Q R W X
theorem Inv.Dl (hi:Inv I O w) (ob:cN):zy I (O.alloc ob) w/\eY I O w I (O.alloc ob) w/\∀b o,O.m.get b=some o->(O.alloc ob).m.get b=some o:=by
 have aa:I O.next=none:=(hi.fresh _<|nR_ _).1;have u:∀b,b≠O.next->(O.alloc ob).m.get b=O.m.get b:=fun b hb=>PT.dB _ _ _ _ hb
 have back:∀b o l,(O.alloc ob).m.get b=some o->I b=some l->O.m.get b=some o:=fun b o l h hl=>by
  grind
 refine⟨⟨fun b hb=>?_,hi.dN,fun b o l h hl=>hi.obj b o l (back b o l h hl) hl,fun b b' o o' l l' h1 z h3 h4=>hi.inj b b' o o' l l' (back b o l h1 h3) (back b' o' l' z h4) h3 h4⟩,⟨fun _ _=>Z,?_,nR_ _,fun _ _ _=>Z,?_,Z,Z,Z⟩,fun b o h=>?_⟩
 ·have ab:O.next.num+1<=b.num:=by simpa [N.alloc,Pos.iu] using hb
  have B:b≠O.next:=fun e=>by subst e;omega
  rw[u b B];exact hi.fresh b oM
 ·simp[N.alloc,Pos.iu]
 ·rintro r ⟨b,o,l,h1,z,h3,rfl⟩ _;exact⟨b,o,l,back b o l h1 h3,z,h3,Z⟩
 by_cases e:b=O.next
 ·subst e;rw[(hi.fresh _<|nR_ _).2] at h;cases h
 simp_all
theorem Inv.ahead (hi:Inv I O w) (ob:cN):Inv I (O.alloc ob) w/\eY I O w I (O.alloc ob) w/\∀b o,O.m.get b=some o->(O.alloc ob).m.get b=some o:=
 let ⟨h1,u,h3⟩:=hi.Dl ob;⟨⟨h1,hi.rB.of u⟩,u,h3⟩
theorem N.G0 (O:N) (ob:cN):(O.alloc ob).m.get O.next=some ob:=PT.dE _ _ _
theorem J_.OQ (E:Shape P ops A) {i:Nat} {rc:List Nat} (hj:J_ P G ih ops A n d fin ρ₀ σ₀ w₀ t₀ ((i,rc)::l) done t O listed I w a) (hl:jx P ops i=false) (aa:∀k,fin≠ .err k):
  ∃t₁ σ₁,J_ P G ih ops A n d fin ρ₀ σ₀ w₀ t₀ l (i::done) t₁ σ₁ listed I w a:=by
 obtain⟨hh,ab⟩:=hj.ok;obtain⟨o,B⟩:∃o,ops[i]?=some o:=⟨ops[i]' hh.lt,aG_ hh.lt⟩
 have u:(match ops[i]? with
   | some o=>jg P G ih false ops n o t O (fun t' O'=>bif du P G ops t' O' rc then jP P G ih ops n d l t' O' else .err 86)
   | none=>.err 87)=fin:=hj.run
 rw[B] at u;dsimp only at u;have hhead:=hj.wG E B hh.new
 have z:∀t₁ σ₁,(bif du P G ops t₁ σ₁ rc then jP P G ih ops n d l t₁ σ₁ else .err 86)=fin->jP P G ih ops n d l t₁ σ₁=fin:=fun t₁ σ₁ h=>by
  grind
 have C:∀{v:V} {t₁:PT V},dP t n o.dst v=some t₁->∀k∈slotsOf ops o,∀j,rM A i j=true->ff ops j=some k->t.get (posOf k)=t₁.get (posOf k):=fun hp k hk j Q L=>by
  refine((my hp).1 k fun e=>?_).symm;have:=E.uniq i j k (by rw[iq B];exact e) L;subst this;exact hh.new<|vU E hh.lt hh.dep hj.lC i hh.lt Q
 unfold jg at u;cases hw:bH ops t o with
 | none=>grind
 | some bw=>
  rw[hw] at u;cases bw with
  | false=>
   dsimp only at u;cases hp:dP t n o.dst unit with
   | none=>grind
   | some t₁=>
    rw[hp] at u;refine⟨t₁,O,hj.ahead E hl B hp (z _ _ u) hj.inv (eY.refl _ _ _) (fun _ _ h=>h) (fun b hb=>by cases hb) ?_⟩;exact⟨o,t,B,C hp,hhead,false,hw,fun _ k hk=>((my hp).2 k hk).2,fun h=>by cases h⟩
  | true=>
   dsimp only at u
   have main:∀(v:V) (σ₁:N),lE P G ih (dW P G (bp G t) O o.op)= .ret v σ₁->Inv I σ₁ w->eY I O w I σ₁ w->(∀b o,O.m.get b=some o->σ₁.m.get b=some o)->
     (∀b,dN v=some b->kindOf P o.op= .alloc->O.next.num<=b.num)->(∀t₁,(∀k,o.dst=some k->t₁.get (posOf k)=some v)->mI P G t₁ σ₁ I σ₀.next.num t o)->
     ∃t₁ σ₁,J_ P G ih ops A n d fin ρ₀ σ₀ w₀ t₀ l (i::done) t₁ σ₁ listed I w a:=by
    intro v σ₁ he hinv ar F K M;rw[he] at u;dsimp only at u;cases hp:dP t n o.dst v with
    | none=>grind
    | some t₁=>
     rw[hp] at u;refine⟨t₁,σ₁,hj.ahead E hl B hp (z _ _ u) hinv ar F K ?_⟩;exact⟨o,t,B,C hp,hhead,true,hw,fun h=>(by cases h),fun _=>M t₁ fun k hk=>((my hp).2 k hk).2⟩
   cases hk:kindOf P o.op with
   | jO=>simp[jx,D0,B,hk] at hl
   | pure=>
    cases hv:dj P (bp G t) o.op with
    | none=>
     have:lE P G ih (dW P G (bp G t) O o.op)= .err (Nat.add 1000<|y6 o.op):=by unfold dW;rw[hk];dsimp only;rw[hv];rfl
     grind
    | some v=>
     have:lE P G ih (dW P G (bp G t) O o.op)= .ret v O:=by unfold dW;rw[hk];dsimp only;rw[hv];rfl
     refine main v O this hj.inv (eY.refl _ _ _) (fun _ _ h=>h) (fun b _ h=>by rw[hk] at h;cases h) fun t₁ ht₁=>?_
     unfold mI;simp_all
   | read=>
    cases hv:gp P (bp G t) O o.op with
    | none=>
     have:lE P G ih (dW P G (bp G t) O o.op)= .err (Nat.add 2000<|y6 o.op):=by unfold dW;rw[hk];dsimp only;rw[hv];rfl
     grind
    | some v=>
     have:lE P G ih (dW P G (bp G t) O o.op)= .ret v O:=by unfold dW;rw[hk];dsimp only;rw[hv];rfl
     refine main v O this hj.inv (eY.refl _ _ _) (fun _ _ h=>h) (fun b _ h=>by rw[hk] at h;cases h) fun t₁ ht₁=>?_
     unfold mI;simp_all
   | alloc=>
    cases hv:fP P (bp G t) o.op with
    | none=>
     have:lE P G ih (dW P G (bp G t) O o.op)= .err (Nat.add 3000<|y6 o.op):=by unfold dW;rw[hk];dsimp only;rw[hv];rfl
     grind
    | some p=>
     obtain⟨ob,mk⟩:=p;have:lE P G ih (dW P G (bp G t) O o.op)= .ret (mk.of O.next) (O.alloc ob):=by unfold dW;rw[hk];dsimp only;rw[hv];rfl
     obtain⟨g1,R,S⟩:=hj.inv.ahead ob;refine main _ _ this g1 R S (fun b hb _=>by rw[zJ] at hb;simp_all) fun t₁ ht₁=>?_
     unfold mI;rw[hk];exact⟨ob,mk,O.next,hv,N.G0 O ob,(hj.inv.fresh _<|nR_ _).1,hj.My.next,by simp[N.alloc,Pos.iu],ht₁⟩
theorem J_.advance (u:Shape P ops A) (b:∀k,fin≠ .err k):∀(l:List (Nat×List Nat)) (done:List Nat) (t:PT V) (O:N),J_ P G ih ops A n d fin ρ₀ σ₀ w₀ t₀ l done t O listed I w a->
  ∃l' done' t' O',J_ P G ih ops A n d fin ρ₀ σ₀ w₀ t₀ l' done' t' O' listed I w a/\(l'= []∨∃i rc r,l'=(i,rc)::r/\jx P ops i=true)
 | [],done,t,O,hj=>⟨[],done,t,O,hj,.inl Z⟩
 | (i,rc)::l,done,t,O,hj=>by
  cases hl:jx P ops i with
  | true=>exact⟨_,done,t,O,hj,.inr ⟨i,rc,l,Z,hl⟩⟩
  | false=>
   obtain⟨t₁,σ₁,hj₁⟩:=hj.OQ u hl b;exact J_.advance u b l _ t₁ σ₁ hj₁
end
section
variable {P:Program} {G:Cx} {ih:kI} {ops:Array Oper} {A:Array Nat} {n:Nat} {d:List DE} {fin:CR} {ρ₀:dg} {σ₀:N} {w₀:World} {t₀:PT V}
variable {l:List (Nat×List Nat)} {done:List Nat} {t:PT V} {O:N} {listed:Array Bool} {I:dg} {w:World} {a:Act}
theorem J_.behind (K:Shape P ops A) (hj:J_ P G ih ops A n d fin ρ₀ σ₀ w₀ t₀ l done t O listed I w a) {i:Nat} {o:Oper} {x:Value} {ρ₁:dg} {w₁:World} (L:ops[i]?=some o) (C:i∈done) (hn:¬Li listed i)
  (hr:∀j,j<ops.size->rM A i j=true->Li listed j) (hv:∀k v,o.dst=some k->t.get (posOf k)=some v->VR ρ₁ v x) (hinv:Inv ρ₁ O w₁) (ar:eY ρ₀ σ₀ w₀ ρ₁ O w₁) (hle:I.le ρ₁)
  (aa:∀j∈done,¬Li listed j->j≠i->qV P G ops A t₀ t O ρ₁ σ₀.next.num j):J_ P G ih ops A n d fin ρ₀ σ₀ w₀ t₀ l done t O (listed.setIfInBounds i true) ρ₁ w₁ (a.put o.dst x):=by
 have E:i<listed.size:=by rw[hj.KC];exact hj.MS i C
 have B:ff ops i=o.dst:=iq L;obtain⟨F,M,Q⟩:=JF (a:=a) (dst:=o.dst) (x:=x);have z:∀{j},Li (listed.setIfInBounds i true) j↔j=i∨Li listed j:=Df E
 refine⟨hj.run,hj.ok,hinv,ar,by rw[put_defers];exact hj.dr.mono hle,hj.gr.mono hle,by rw[Q];exact hj.MA,by simpa using hj.KC,hj.MS,hj.ord,fun j h=>?_,fun j h hh=>z.2 (.inr<|hj.jO j h hh),fun j q hq h R=>?_,hj.lC,hj.Og,
  fun j k v h hk hu=>?_,fun k v h hu=>?_,hj.same,fun j h hl=>?_,?_⟩
 ·rcases z.1 h with rfl | h
  ·exact C
  exact hj.sub j h
 ·rcases z.1 h with rfl | h
  ·simp_all
  exact z.2 (.inr<|hj.closed j q hq h R)
 ·by_cases e:j=i
  ·subst e;rw[B] at hk;rw[M k hk (by rw[hj.MA];exact hj.Og j C k (by rw[B];exact hk))];exact hv k v hk hu
  have hL:=(z.1 h).resolve_left e;rw[F k (fun e'=>e (K.uniq j i k hk (by rw[B];exact e')))];exact VR.mono hle _ _<|hj.CN j k v hL hk hu
 ·rw[F k (fun e'=>h i (z.2 (.inl Z)) (by rw[B];exact e'))];obtain⟨q1,q2⟩:=hj.CM k v (fun j hL=>h j (z.2 (.inr hL))) hu;exact⟨q1,VR.mono hle _ _ q2⟩
 ·simp_all
 intro j q o' o'' k k' u u' b h1 S h3 h4;exact hj.apart j q o' o'' k k' u u' b h1 S (fun hL=>h3 (z.2 (.inr hL))) (fun hL=>h4 (z.2 (.inr hL)))
theorem tq {t₁:PT V} {σ₁:N}:∀{rc:List Nat} {j:Nat},du P G ops t₁ σ₁ rc=true->j∈rc->ku P G ops t₁ σ₁ j=true
 | [],j,_,hj=>by cases hj
 | i::rc,j,h,hj=>by
  have h':(bif ku P G ops t₁ σ₁ i then du P G ops t₁ σ₁ rc else false)=true:=h;rw[bx] at h';split at h'
  ·rename_i hi;rcases di hj with rfl | hj
   ·exact hi
   exact tq h' hj
  cases h'
theorem J_.Pk (W:Shape P ops A) {i:Nat} {rc:List Nat} (hj:J_ P G ih ops A n d fin ρ₀ σ₀ w₀ t₀ ((i,rc)::l) done t O listed I w a) (hl:jx P ops i=true) {o:Oper} (ho:ops[i]?=some o)
  (hr:∀j,j<ops.size->rM A i j=true->Li listed j) {v:V} {x:Value} {t₁:PT V} {σ₁:N} {ρ₁:dg} {w₁:World} (hp:dP t n o.dst v=some t₁) (F:du P G ops t₁ σ₁ rc=true) (L:jP P G ih ops n d l t₁ σ₁=fin)
  (hv:VR ρ₁ v x) (hinv:Inv ρ₁ σ₁ w₁) (ar:eY I O w ρ₁ σ₁ w₁):J_ P G ih ops A n d fin ρ₀ σ₀ w₀ t₀ l (i::done) t₁ σ₁ (listed.setIfInBounds i true) ρ₁ w₁ (a.put o.dst x):=by
 obtain⟨hh,X⟩:=hj.ok;obtain⟨f1,f2⟩:=my hp;have hle:=ar.le hj.inv;have aa:i<listed.size:=by rw[hj.KC];exact hh.lt
 have C:ff ops i=o.dst:=iq ho;obtain⟨p1,p2,p3⟩:=JF (a:=a) (dst:=o.dst) (x:=x);have z:∀{j},Li (listed.setIfInBounds i true) j↔j=i∨Li listed j:=Df aa;have ap:¬Li listed i:=fun h=>hh.new (hj.sub i h)
 have B:∀j∈done,∀k,ff ops j=some k->t₁.get (posOf k)=t.get (posOf k):=fun j E k hk=>f1 k fun e=>by
  have:=W.uniq i j k (by rw[C];exact e) hk;subst this;exact hh.new E
 refine⟨L,X,hinv,hj.My.trans ar,by rw[put_defers];exact hj.dr.mono hle,hj.gr.mono hle,by rw[p3];exact hj.MA,by simpa using hj.KC,fun j h=>?_,⟨hh.dep,hj.ord⟩,fun j h=>?_,fun j h hv=>?_,fun j q hq h K=>?_,fun j q hq h K=>?_,fun j h k hk=>?_,
  fun j k u h hk hu=>?_,fun k u h hu=>?_,fun k hk=>?_,fun j h M=>?_,?_⟩
 ·rcases di h with rfl | h
  ·exact hh.lt
  exact hj.MS j h
 ·rcases z.1 h with rfl | h
  ·simp_all
  exact mC_ _<|hj.sub j h
 ·rcases di h with rfl | h
  ·simp_all
  exact z.2 (.inr<|hj.jO j h hv)
 ·rcases z.1 h with rfl | h
  ·simp_all
  exact z.2 (.inr<|hj.closed j q hq h K)
 ·rcases di h with rfl | h
  ·exact mC_ _<|vU W hh.lt hh.dep hj.lC q hq K
  exact mC_ _<|hj.lC j q hq h K
 ·rcases di h with rfl | h
  ·simp_all
  exact hj.Og j h k hk
 ·by_cases e:j=i
  ·subst e;rw[C] at hk;obtain⟨q1,q2⟩:=f2 k hk;rw[p2 k hk (by rw[hj.MA];exact q1)]
   simp_all
  have hL:=(z.1 h).resolve_left e;rw[p1 k (fun e'=>e (W.uniq j i k hk (by rw[C];exact e')))];rw[B j (hj.sub j hL) k hk] at hu;exact VR.mono hle _ _<|hj.CN j k u hL hk hu
 ·rw[p1 k (fun e'=>h i (z.2 (.inl Z)) (by rw[C];exact e'))];obtain⟨q1,q2⟩:=hj.CM k u (fun j hL=>h j (z.2 (.inr hL))) hu;exact⟨q1,VR.mono hle _ _ q2⟩
 ·rw[f1 k (fun e=>hk i (mS_ ..) (by rw[C];exact e))];exact hj.same k fun j h=>hk j (mC_ _ h)
 ·have ab:j≠i:=fun e=>M (z.2 (.inl e))
  have Q:¬Li listed j:=fun hL=>M (z.2 (.inr hL))
  have E:j∈done:=(di h).resolve_left ab;refine(hj.Cs j E Q).again W (fun k hk=>?_) (fun k hk=>?_) (fun ac=>?_) (fun b hb=>ar.ext b hb) ar.next
  ·rcases hk with hk | ⟨q,hq,hk⟩
   ·grind
   exact B q (hj.lC j q (l6 hk) E hq) k hk
  ·rw[f1 k (fun e=>hk i (by rw[C];exact e))];exact hj.same k fun j _=>hk j
  rcases hh.again hl j E ac with K | hm
  ·exact absurd (hr j (hj.MS j E) K) Q
  exact tq F hm
 intro j q o' o'' k k' u u' b h1 h2 h3 h4 h5 h6 h7 h8 h9 R S T am ao;have m1:j∈done:=(di h1).resolve_left fun e=>h3 (z.2 (.inl e))
 have m2:q∈done:=(di h2).resolve_left fun e=>h4 (z.2 (.inl e))
 rw[B j m1 k h9] at S;rw[B q m2 k' R] at T;exact hj.apart j q o' o'' k k' u u' b m1 m2 (fun hL=>h3 (z.2 (.inr hL))) (fun hL=>h4 (z.2 (.inr hL))) h5 h6 h7 h8 h9 R S T am ao
theorem Cz {i:Nat} (u:listed.size=ops.size) (h:i∈Region.ready .any ops listed):i<ops.size/\¬Li listed i/\∀j,waits ops i j=true->Li listed j:=by
 obtain⟨h1,o,z,B⟩:=mem_ready.1 h;have hlt:=(aS_.1 z).1;refine⟨hlt,(Jk (by rw[u];exact hlt)).1 h1,fun j hw=>?_⟩;obtain⟨o',b,e,he,hb,rfl⟩:=qS.1 hw;rw[z] at b;cases b;exact B e he hb
theorem Cy {i:Nat} (u:listed.size=ops.size) (b:i<ops.size) (z:¬Li listed i) (hw:∀j,waits ops i j=true->Li listed j):i∈Region.ready .any ops listed:=
 mem_ready.2 ⟨(Jk (by rw[u];exact b)).2 z,ops[i]' b,aG_ b,fun e he hb=>hw _ (qS.2 ⟨_,aG_ b,e,he,hb,Z⟩)⟩
theorem y7:∀{done:List Nat},Ord ops done->(∃i∈done,¬Li listed i)->∃i∈done,¬Li listed i/\∀j,waits ops i j=true->Li listed j
 | [],_,⟨i,hi,_⟩=>by cases hi
 | i::r,u,⟨q,hq,B⟩=>by
  by_cases z:∃j∈r,¬Li listed j
  ·obtain⟨j,h1,h2,h3⟩:=y7 u.2 z
   grind
  have b:∀j∈r,Li listed j:=fun j hj=>Classical.byContradiction fun h=>z ⟨j,hj,h⟩
  rcases di hq with rfl | hq
  ·exact⟨q,mS_ ..,B,fun j hw=>b j (u.1 j hw)⟩
  simp_all
theorem J_.all (hs:Shape P ops A) (hj:J_ P G ih ops A n d fin ρ₀ σ₀ w₀ t₀ l done t O listed I w a) (hr:Region.ready .any ops listed= []):∀i,i<ops.size->Li listed i:=by
 have b:∀i∈done,Li listed i:=fun i hi=>Classical.byContradiction fun h=>by
  obtain⟨q,h1,u,h3⟩:=y7 hj.ord ⟨i,hi,h⟩;have:=Cy hj.KC (hj.MS q h1) u h3
  simp_all
 intro i hi;cases l with
 | nil=>
  have:=hj.ok;exact b i<|this i hi
 | cons p l=>
  obtain⟨q,rc⟩:=p;obtain⟨hh,_⟩:=hj.ok;have:=Cy (listed:=listed) hj.KC hh.lt (fun h=>hh.new (hj.sub q h)) (fun j hw=>b j (hh.dep j hw))
  simp_all
theorem J_.finish (hs:Shape P ops A) (hj:J_ P G ih ops A n d fin ρ₀ σ₀ w₀ t₀ l done t O listed I w a) (b:∀i,i<ops.size->Li listed i):fin= .ok .normal t d O/\TR I t n a.tmps:=by
 cases l with
 | nil=>
  refine⟨hj.run.symm,hj.MA,fun k v hv=>?_⟩
  by_cases hw:∃i,ff ops i=some k
  ·obtain⟨i,hi⟩:=hw;have hL:=b i (l6 hi);exact⟨hj.Og i (hj.sub i hL) k hi,hj.CN i k v hL hi hv⟩
  rw[hj.same k fun i _ hi=>hw ⟨i,hi⟩] at hv;exact hj.CM k v (fun i _ hi=>hw ⟨i,hi⟩) hv
 | cons p l=>
  obtain⟨q,rc⟩:=p;obtain⟨hh,_⟩:=hj.ok;exact absurd (hj.sub q<|b q hh.lt) hh.new
def left (N_:Nat) (listed:Array Bool):Nat:=(List.range N_).countP fun i=> !listed.getD i false
theorem yD {α:Type} {p q:α->Bool}:∀{l:List α} {x:α},(∀y∈l,q y=true->p y=true)->x∈l->p x=true->q x=false->l.countP q<l.countP p
 | [],x,_,hx,_,_=>by cases hx
 | y::l,x,h,hx,hp,hq=>by
  have hle:l.countP q<=l.countP p:=List.countP_mono_left fun z b=>h z (mC_ _ b)
  rcases di hx with rfl | hx
  ·grind
  have:=yD (fun z b=>h z (mC_ _ b)) hx hp hq
  grind
theorem I6 {N_ i:Nat} (hi:i<N_) (b:listed.size=N_) (u:¬Li listed i):left N_ (listed.setIfInBounds i true)<left N_ listed:=by
 refine yD (x:=i) (fun y _ hy=>?_) (List.mem_range.2 hi) ?_ ?_
 ·by_cases h:Li listed y
  ·have:Li (listed.setIfInBounds i true) y:=(Df (by rw[b];exact hi)).2 (.inr h);unfold Li at this
   simp_all
  unfold Li at h;simpa using h
 ·unfold Li at u;simpa using u
 simp_all
theorem G8 {N_:Nat} (h:left N_ listed=0):∀i,i<N_->Li listed i:=fun i hi=>by
 have:=List.countP_eq_zero.1 h i (List.mem_range.2 hi);unfold Li;simpa using this
theorem Inv.lay (hi:Inv I O w) {b:Pos} {l:Loc} {ob:cN} {x:Obj} (hb:O.m.get b=some ob) (hn:I b=none) (aa:b.num<O.next.num) (hl:l.dN=w.heap.size) (L:gK I l ob x):Inv (I.with b l) O (w.alloc x)/\I.le (I.with b l):=by
 have hle:I.le (I.with b l):=fun b' l' u=>by
  grind [dg.dV]
 have hold:∀b' l',b'≠b->(I.with b l) b'=some l'->I b'=some l':=fun b' l' z h=>by rwa[dg.dV I l z] at h
 have B:Old (I.with b l) O (w.alloc x):=by
  refine⟨by have:=hi.rB.size;simp;omega,fun r E=>by rw[heap_alloc_old w x<|Nat.lt_of_lt_of_le E hi.rB.size];exact hi.rB.same r E,fun r E ⟨b',o',l',h1,F,h3,h4⟩=>?_⟩
  by_cases e:b'=b
  ·subst e;rw[dg.cV] at h3;cases h3;have:=hi.rB.size;omega
  exact hi.rB.no r E ⟨b',o',l',h1,F,hold b' l' e h3,h4⟩
 refine⟨⟨⟨fun b' u=>?_,fun b' l' u=>?_,fun b' o' l' u C=>?_,fun b₁ b₂ o₁ o₂ l₁ l₂ h1 F h3 h4 h5 M=>?_⟩,B⟩,hle⟩
 ·have z:b'≠b:=fun e=>by subst e;omega
  rw[dg.dV I l z];exact hi.fresh b' u
 ·simp only[World.size_alloc]
  by_cases e:b'=b
  ·subst e;rw[dg.cV] at u;cases u;omega
  have:=hi.dN b' l' (hold b' l' e u);omega
 ·by_cases e:b'=b
  ·subst e;rw[dg.cV] at C;cases C;rw[hb] at u;cases u;exact⟨x,by rw[hl];exact heap_alloc_new w x,L.mono hle⟩
  have h':=hold b' l' e C;obtain⟨y,hy,E⟩:=hi.obj b' o' l' u h';exact⟨y,by rw[heap_alloc_old w x<|hi.dN b' l' h'];exact hy,E.mono hle⟩
 by_cases e1:b₁=b<;>by_cases K:b₂=b
 ·simp_all
 ·subst e1;rw[dg.cV] at h3;cases h3;have:=hi.dN b₂ l₂ (hold b₂ l₂ K h4);omega
 ·subst K;rw[dg.cV] at h4;cases h4;have:=hi.dN b₁ l₁ (hold b₁ l₁ e1 h3);omega
 exact hi.inj b₁ b₂ o₁ o₂ l₁ l₂ h1 F (hold b₁ l₁ e1 h3) (hold b₂ l₂ K h4) h5 M
theorem eY.lay (ar:eY ρ₀ σ₀ w₀ I O w) {b:Pos} {l:Loc} {x:Obj} (aa:σ₀.next.num<=b.num) (hl:l.dN=w.heap.size):eY ρ₀ σ₀ w₀ (I.with b l) O (w.alloc x):=by
 refine⟨fun b' u=>?_,ar.next,by have:=ar.size;simp;omega,fun r z B=>?_,?_,ar.tape,ar.os,ar.out⟩
 ·rw[dg.dV I l (fun e=>by subst e;omega)];exact ar.ext b' u
 ·rw[heap_alloc_old w x (by have:=ar.size;omega)];exact ar.frame r z B
 rintro r ⟨b',o',l',h1,C,h3,rfl⟩ z
 by_cases e:b'=b
 ·subst e;rw[dg.cV] at h3;cases h3;have:=ar.size;omega
 rw[dg.dV I l e] at h3;exact ar.wr _ ⟨b',o',l',h1,C,h3,Z⟩ z
theorem J_.take (F:Shape P ops A) (hj:J_ P G ih ops A n d fin ρ₀ σ₀ w₀ t₀ l done t O listed I w a) {i:Nat} (C:i∈done) (L:¬Li listed i) (hw:∀j,waits ops i j=true->Li listed j) (rl:Option Nat) (m:Nat) {Q:Exit->Act->World->Prop} {K:Act->World->Prop}
  (T:∀ρ₁ w₁ a₁,J_ P G ih ops A n d fin ρ₀ σ₀ w₀ t₀ l done t O (listed.setIfInBounds i true) ρ₁ w₁ a₁->K a₁ w₁):wpOpIn (ow rl) m P ops Q i K a w:=by
 have hr:=vV F (hj.MS i C) hw hj.closed;obtain⟨o,ti,E,h1,h2,bw,h3,h4,h5⟩:=hj.Cs i C L;have hlook:=hj.look F E L hr h1 h2;unfold wpOpIn;rw[E];dsimp only;rw[uO hj.MA hlook h3];cases bw with
 | false=>
  simp only[Bool.false_eq_true,if_false];exact⟨fun f _=>qw rl f,T I w _<|hj.behind F E C L hr (fun k v hk hv=>by rw[h4 Z k hk] at hv;cases hv;exact vz) hj.inv hj.My (fun _ _ h=>h) fun j z B _=>hj.Cs j z B⟩
 | true=>
  simp only[if_true];have W:ER I (bp G ti) a.eval o.op:=FP hj.gr hlook;have hv:=h5 Z;unfold mI at hv;have M:kindOf P o.op≠ .jO->∀c,o.op≠ .defer c:=fun hk c e=>hk (by rw[e];rfl)
  unfold Oper.wpIn;refine⟨fun f _=>qw rl f,?_⟩;cases hk:kindOf P o.op with
  | jO=>simp_all
  | pure=>
   rw[hk] at hv;obtain⟨v,g1,X⟩:=hv;obtain⟨x,hx,R⟩:=xi (P:=P) (w:=w) W g1;rw[Oper.semAt_eq _ _ _<|M (by rw[hk];simp),hx,Oper.uponIn_value];exact T I w _<|hj.behind F E C L hr (fun k u hk hu=>by simp_all) hj.inv hj.My (fun _ _ h=>h) fun j z B _=>hj.Cs j z B
  | read=>
   rw[hk] at hv;obtain⟨v,g1,X⟩:=hv;obtain⟨x,hx,R⟩:=xn (P:=P) hj.inv W g1;rw[Oper.semAt_eq _ _ _<|M (by rw[hk];simp),hx,Oper.uponIn_value];exact T I w _<|hj.behind F E C L hr (fun k u hk hu=>by simp_all) hj.inv hj.My (fun _ _ h=>h) fun j z B _=>hj.Cs j z B
  | alloc=>
   rw[hk] at hv;obtain⟨ob,mk,b,g1,X,g3,g4,g5,g6⟩:=hv;obtain⟨x,ob',c,hx,am,aa,R⟩:=uq (P:=P) (w:=w) W g1;rw[Oper.semAt_eq _ _ _<|M (by rw[hk];simp),hx,Oper.uponIn_value];obtain⟨inv,hle⟩:=hj.inv.lay (l:=⟨w.heap.size,0,c⟩) X g3 g5 Z aa;obtain⟨kd,S⟩:=F.dst i o E (by simp[fW,tT,E,hk]);refine T _ _ _<|hj.behind F E C L hr (fun k u hk hu=>by grind [dg.cV]) inv (hj.My.lay g4 Z) hle fun j z B ab=>?_;refine(hj.Cs j z B).Ru F fun b' ac hb'n=>?_
   obtain⟨o',k',v',q1,q2,q3,q4,q5⟩:=ac;rw[dg.dV]
   ·exact hb'n
   intro e;subst e;exact ab<|hj.apart j i o' o k' kd v' (mk.of b') b' z C B L q1 E q2 hk q3 (by rw[iq E];exact S) q4 (g6 kd S) q5<|zJ mk b'
theorem Ir (C:Shape P ops A) (hS:Sound P G ih) (rl:Option Nat) (m:Nat) {Q:Exit->Act->World->Prop} {e:Ex} {t':PT V} {d':List DE} {O':N} (z:fin= .ok e t' d' O')
  (hQ:∀(I':dg) (w':World) (a':Act),Inv I' O' w'->eY ρ₀ σ₀ w₀ I' O' w'->TR I' t' n a'.tmps->DR I' d' a'.defers->Qx Q I' e a' w'):
  ∀(fuel:Nat) (l:List (Nat×List Nat)) (done:List Nat) (t:PT V) (O:N) (listed:Array Bool) (I:dg) (w:World) (a:Act),J_ P G ih ops A n d fin ρ₀ σ₀ w₀ t₀ l done t O listed I w a->left ops.size listed<=fuel->
   wpAnyIn (ow rl) m P .any ops Q fuel listed a w:=by
 have E:∀{l done t O listed I w a},J_ P G ih ops A n d fin ρ₀ σ₀ w₀ t₀ l done t O listed I w a->Region.ready .any ops listed= []->Q .normal a w:=fun {l done t O listed I w a} hj hr=>by
  obtain⟨h1,R⟩:=hj.finish C (hj.all C hr);rw[z] at h1;cases h1;exact hQ I w a hj.inv hj.My R hj.dr _ Z
 intro fuel;induction fuel with
 | zero=>
  intro l done t O listed I w a hj hf;have hall:=G8 (Nat.le_zero.1 hf)
  have hr:Region.ready .any ops listed= []:=by
   apply List.eq_nil_iff_forall_not_mem.2;intro i hi;obtain⟨h1,R,_⟩:=Cz hj.KC hi;exact R<|hall i h1
  exact⟨hr,E hj hr⟩
 | succ fuel ihf=>
  intro l done t O listed I w a hj hf;refine⟨fun hr=>E hj hr,fun i hi=>?_⟩;obtain⟨l,done,t,O,hj,F⟩:=J_.advance C (fun k=>by rw[z];simp) l done t O hj;obtain⟨u,T,hw⟩:=Cz hj.KC hi;have K:left ops.size (listed.setIfInBounds i true)<=fuel:=by have:=I6 u hj.KC T;omega
  by_cases L:i∈done
  ·exact hj.take C L T hw rl m fun ρ₁ w₁ a₁ hj₁=>ihf _ _ _ _ _ _ _ _ hj₁ K
  
  rcases F with rfl | ⟨q,rc,r,rfl,hl⟩
  ·have:=hj.ok;exact absurd (this i u) L
  obtain⟨hh,_⟩:=hj.ok
  have W:i=q:=Classical.byContradiction fun X=>by
   obtain⟨x,h1,R⟩:=hh.alone hl i u L X;exact R<|hj.sub x<|hw x h1
  subst W;have hr:=vV C u hw hj.closed;obtain⟨o,M⟩:∃o,ops[i]?=some o:=⟨ops[i]' u,aG_ u⟩;have hlook:=hj.look C M T hr (ti:=t) (fun _ _ _ _ _=>Z) (hj.wG C M hh.new)
  have b:(match ops[i]? with
   | some o=>jg P G ih false ops n o t O (fun t' O'=>bif du P G ops t' O' rc then jP P G ih ops n d r t' O' else .err 86)
   | none=>.err 87)=fin:=hj.run
  rw[M,z] at b;dsimp only at b
  have B:∀t₁ σ₁,(bif du P G ops t₁ σ₁ rc then jP P G ih ops n d r t₁ σ₁ else .err 86)= .ok e t' d' O'->du P G ops t₁ σ₁ rc=true/\jP P G ih ops n d r t₁ σ₁=fin:=fun t₁ σ₁ h=>by
   grind
  unfold jg at b;unfold wpOpIn;rw[M];dsimp only;cases S:bH ops t o with
  | none=>simp_all
  | some bw=>
   rw[S] at b;rw[uO hj.MA hlook S];cases bw with
   | false=>
    dsimp only at b;simp only[Bool.false_eq_true,if_false];cases hp:dP t n o.dst unit with
    | none=>simp_all
    | some t₁=>
     rw[hp] at b;obtain⟨c1,c2⟩:=B _ _ b;exact⟨fun f _=>qw rl f,ihf _ _ _ _ _ _ _ _ (hj.Pk C hl M hr hp c1 c2 vz hj.inv<|eY.refl _ _ _) K⟩
   | true=>
    dsimp only at b;simp only[if_true];cases he:lE P G ih (dW P G (bp G t) O o.op) with
    | err k=>simp_all
    | mr v σ₁=>rw[he] at b;cases b
    | ret v σ₁=>
     rw[he] at b;dsimp only at b;cases hp:dP t n o.dst v with
     | none=>simp_all
     | some t₁=>
      rw[hp] at b;obtain⟨c1,c2⟩:=B _ _ b;exact Cn hS hj.inv hj.gr (FP hj.gr hlook) he rl m fun ρ₁ w₁ x inv st hv=>ihf _ _ _ _ _ _ _ _ (hj.Pk C hl M hr hp c1 c2 hv inv st) K
end
section
variable {P:Program} {G:Cx}
theorem iX {b:Frame} {a:Act} {k:List Item} {cs:List Frame} {w:World} {c:Code}:step P (lone (b.atR a (.code (.scope c)::k)) cs w)= .next (lone (b.atR a (.code c:: .inScope c::k)) cs w):=
 step_lone_go (by simp[stepG,stepG.exec,Frame.atR])
theorem yg {b:Frame} {a:Act} {k:List Item} {cs:List Frame} {w:World} {c:Code}:step P (lone (b.atR a (.inScope c::k)) cs w)= .next (lone (b.atR a k) cs w):=
 step_lone_go (by simp[stepG,stepG.exec,Frame.atR])
theorem E8 {F:Fence} {n:Nat} {c:Code} {Q:Exit->Act->World->Prop} {a:Act} {w:World} (h:c.wpIn F n P (Exit.noGoto Q) a w):(Code.scope c).wpIn F n P Q a w:=by
 intro b k cs u hb z;have h0:(lone (b.atR a (.code (.scope c)::k)) cs w).fenced P F:=fenced_calm hb z Z;obtain⟨e,a₁,w₁,hq,d⟩:=h b (.inScope c::k) cs u hb z;cases e with
 | normal=>exact⟨.normal,a₁,w₁,hq,.head h0 iX<|StepsIn.trans d (.one (fenced_calm hb z Z) yg)⟩
 | exit id'=>
  have hx:exitTo id' (.inScope c::k)=exitTo id' k:=by simp[exitTo]
  exact⟨.exit id',a₁,w₁,hq,fun k' hk=>.head h0 iX (d.1 k' (by rw[hx];exact hk)),
   fun A hk=>let ⟨k₁,h1,B⟩:=d.2 A (by rw[hx];exact hk);⟨k₁,h1,.head h0 iX B⟩⟩
 | goto l=>exact hq.elim
 | ret=>exact⟨_,a₁,w₁,hq,.of_steps (.one h0 iX) d⟩
 | panic ch=>exact⟨_,a₁,w₁,hq,.of_steps (.one h0 iX) d⟩
 | outgrown=>exact⟨_,a₁,w₁,hq,.of_steps (.one h0 iX) d⟩
theorem j1 {N_ i:Nat}:¬Li (Array.replicate N_ false) i:=by
 unfold Li;rw[Array.getD_eq_getD_getElem?,Array.getElem?_replicate];split<;>simp
theorem DG {ih:kI} (B:Sound P G ih) {ops:Array Oper} {n:Nat} {d:List DE} {t:PT V} {O:N} {e:Ex} {t':PT V} {d':List DE} {O':N} (h:uC P G ih ops n d t O= .ok e t' d' O')
  {I:dg} {w:World} {a:Act} (hi:Inv I O w) (C:GR I G) (z:TR I t n a.tmps) (E:DR I d a.defers) (rl:Option Nat) (m:Nat) {Q:Exit->Act->World->Prop}
  (F:∀(I':dg) (w':World) (a':Act),Inv I' O' w'->eY I O w I' O' w'->TR I' t' n a'.tmps->DR I' d' a'.defers->Qx Q I' e a' w'):
  wpAnyIn (ow rl) m P .any ops Q ops.size (Array.replicate ops.size false) a {w with drawn:=w.drawn+1}:=by
 unfold uC at h;rw[bx] at h;split at h
 ·rename_i K;obtain⟨L,u⟩:=La K;refine Ir (A:=zE P ops) (n:=n) (d:=d) (t₀:=t) (ρ₀:=I) (σ₀:=O) (w₀:=w) L B rl m Z F ops.size (jh P ops) [] t O _ I _ a ?_ ?_
  ·refine⟨h,u,hi.drew,eY.drew I O w,E,C,z.1,by simp,fun i hi=>(by cases hi),trivial,fun i b=>absurd b j1,fun i hi=>(by cases hi),fun i j _ b=>absurd b j1,fun i j _ hi=>(by cases hi),fun i hi=>(by cases hi),
    fun i k v b=>absurd b j1,fun k v _ hv=>z.2 k v hv,fun _ _=>Z,fun i hi=>(by cases hi),?_⟩
   simp_all
  exact Nat.le_trans List.countP_le_length (by simp)
 cases h
theorem xH {K:Act->World->Prop} {Q:Exit->Act->World->Prop} {I:dg} {e:Ex} {a:Act} {w:World} (he:e≠ .normal) (h:Qx Q I e a w):Qx (Exit.then K Q) I e a w:=by
 intro E b;have h':=h E b;cases e with
 | normal=>exact absurd Z he
 | mr v=>obtain⟨x,rfl,_⟩:=b;exact h'
 | exit i=>have b:E= .exit i:=b;subst b;exact h'
 | goto i=>have b:E= .goto i:=b;subst b;exact h'
 | ret=>have b:E= .ret:=b;subst b;exact h'
theorem Hs (hm:P.follows .mixedOrders=true) (S:Bi P G) (k:Nat):Sound P G (eH P G k):=by
 induction k using Nat.strongRecOn with
 | _ k ihk=>
  cases k with
  | zero=>exact⟨S,fun c t n d ro O e t' d' O' h=>by cases h⟩
  | succ j=>
   have hS:=ihk j (Nat.lt_succ_self j);refine⟨S,fun c t n d ro O e t' d' O' h I w a rl m Q hi C B F K A=>?_⟩;have h:Gc P G (eH P G j) c t n d ro O= .ok e t' d' O':=h;cases c with
   | skip=>cases h;exact wpIn_skip<|A I w a hi (eY.refl _ _ _) B F _ Z
   | label l=>cases h;exact wpIn_label<|A I w a hi (eY.refl _ _ _) B F _ Z
   | exit id=>cases h;exact wpIn_exit<|A I w a hi (eY.refl _ _ _) B F _ Z
   | ret=>cases h;exact wpIn_ret<|A I w a hi (eY.refl _ _ _) B F _ Z
   | region id ops draw=>
    cases draw with
    | false=>
     have h':(bif mg ops.toList then .err 96 else BV d (tX P G (eH P G j) ops n d ops.toList t O))= .ok e t' d' O':=h;refine wpIn_region ?_;rw[bx] at h';split at h'
     ·cases h'
     have:=tY hS rl (m:=m) (Q:=Q) ops.toList 0 Z t O I w a h' hi C B F A;rw[List.range_eq_range'];simpa using this
    | true=>
     have h':uC P G (eH P G j) ops n d t O= .ok e t' d' O':=h
     grind [wpIn_region_any,DG]
   | seq x y=>
    have h':yf (eH P G j x t n d ro O) (fun t d O=>eH P G j y t n d ro O)= .ok e t' d' O':=h;refine wpIn_seq ?_;cases hx:eH P G j x t n d ro O with
    | err q=>rw[hx] at h';cases h'
    | ok e₁ t₁ d₁ σ₁=>
     rw[hx] at h'
     by_cases he:e₁= .normal
     ·subst he;refine hS.run x t n d ro O _ t₁ d₁ σ₁ hx I w a rl m _ hi C B F K fun ρ₁ w₁ a₁ i₁ s₁ ht₁ b E u=>?_
      have u:E= .normal:=u;subst u;have hle:=s₁.le hi;exact hS.run y t₁ n d₁ ro σ₁ e t' d' O' h' ρ₁ w₁ a₁ rl m Q i₁ (C.mono hle) ht₁ b (K.mono hle) fun I' w' a' i' s'=>A I' w' a' i' (s₁.trans s')
     have h'':CR.ok e₁ t₁ d₁ σ₁= .ok e t' d' O':=by cases e₁<;>first | exact absurd rfl he | exact h'
     cases h'';exact hS.run x t n d ro O _ _ _ _ hx I w a rl m _ hi C B F K fun ρ₁ w₁ a₁ i₁ s₁ ht₁ b=>xH he (A ρ₁ w₁ a₁ i₁ s₁ ht₁ b)
   | cond x y z=>
    have h':yC (bp G t x) (eH P G j y t n d ro O) (eH P G j z t n d ro O)= .ok e t' d' O':=h;unfold yC at h';split at h'
    ·rename_i hv;have:=jW (a:=a) C B hv;simp only[VR] at this;exact wpIn_cond_true this<|hS.run y t n d ro O e t' d' O' h' I w a rl m Q hi C B F K A
    ·rename_i hv;have:=jW (a:=a) C B hv;simp only[VR] at this;exact wpIn_cond_false this<|hS.run z t n d ro O e t' d' O' h' I w a rl m Q hi C B F K A
    cases h'
   | block id x=>
    have h':tI id (eH P G j x t n d ro O)= .ok e t' d' O':=h;refine wpIn_block ?_;cases hx:eH P G j x t n d ro O with
    | err q=>rw[hx] at h';cases h'
    | ok e₁ t₁ d₁ σ₁=>
     rw[hx] at h';refine hS.run x t n d ro O e₁ t₁ d₁ σ₁ hx I w a rl m _ hi C B F K fun ρ₁ w₁ a₁ i₁ s₁ ht₁ b E u=>?_
     cases e₁ with
     | exit q=>
      have u:E= .exit q:=u;subst u;unfold tI at h';dsimp only at h';rw[bx] at h';split at h'
      ·rename_i hq;cases h';have:=nB hq;subst this;simp only[Exit.inBlock,if_true];exact A ρ₁ w₁ a₁ i₁ s₁ ht₁ b _ Z
      rename_i hq;cases h';have R:¬q=id:=fun e=>hq (by simp_all)
      simp only[Exit.inBlock,if_neg R];exact A ρ₁ w₁ a₁ i₁ s₁ ht₁ b _ Z
     | normal=>have u:E= .normal:=u;subst u;cases h';exact A ρ₁ w₁ a₁ i₁ s₁ ht₁ b _ Z
     | goto q=>have u:E= .goto q:=u;subst u;cases h';exact A ρ₁ w₁ a₁ i₁ s₁ ht₁ b _ Z
     | ret=>have u:E= .ret:=u;subst u;cases h';exact A ρ₁ w₁ a₁ i₁ s₁ ht₁ b _ Z
     | mr v=>cases h';have h2:=A ρ₁ w₁ a₁ i₁ s₁ ht₁ b E u;obtain⟨y,rfl,_⟩:=u;exact h2
   | scope x=>
    have h':EI (eH P G j x t n d ro O)= .ok e t' d' O':=h;refine E8 ?_;cases hx:eH P G j x t n d ro O with
    | err q=>rw[hx] at h';cases h'
    | ok e₁ t₁ d₁ σ₁=>
     rw[hx] at h';refine hS.run x t n d ro O e₁ t₁ d₁ σ₁ hx I w a rl m _ hi C B F K fun ρ₁ w₁ a₁ i₁ s₁ ht₁ b E u=>?_
     cases e₁ with
     | goto q=>cases h'
     | normal=>have u:E= .normal:=u;subst u;cases h';exact A ρ₁ w₁ a₁ i₁ s₁ ht₁ b _ Z
     | exit q=>have u:E= .exit q:=u;subst u;cases h';exact A ρ₁ w₁ a₁ i₁ s₁ ht₁ b _ Z
     | ret=>have u:E= .ret:=u;subst u;cases h';exact A ρ₁ w₁ a₁ i₁ s₁ ht₁ b _ Z
     | mr v=>cases h';have h2:=A ρ₁ w₁ a₁ i₁ s₁ ht₁ b E u;obtain⟨y,rfl,_⟩:=u;exact h2
   | loop x=>
    refine wpIn_loop_ghost (fun i a₁ w₁=>i<=j+1/\∃t₁ d₁ σ₁ ρ₁,eH P G i (.loop x) t₁ n d₁ ro σ₁= .ok e t' d' O'/\Inv ρ₁ σ₁ w₁/\eY I O w ρ₁ σ₁ w₁/\TR ρ₁ t₁ n a₁.tmps/\DR ρ₁ d₁ a₁.defers) (j+1)
     ⟨nR_ _,t,d,O,I,h,hi,eY.refl _ _ _,B,F⟩ fun i a₁ w₁ T=>?_
    obtain⟨aa,t₁,d₁,σ₁,ρ₁,L,i₁,s₁,ht₁,b⟩:=T;have hle:=s₁.le hi;cases i with
    | zero=>cases L
    | succ i=>
     have hSi:=ihk i oM;have h':yf (eH P G i x t₁ n d₁ ro σ₁) (fun t d O=>eH P G i (.loop x) t n d ro O)= .ok e t' d' O':=L;cases hx:eH P G i x t₁ n d₁ ro σ₁ with
     | err q=>rw[hx] at h';cases h'
     | ok e₂ t₂ d₂ σ₂=>
      rw[hx] at h'
      by_cases he:e₂= .normal
      ·subst he;refine hSi.run x t₁ n d₁ ro σ₁ _ t₂ d₂ σ₂ hx ρ₁ w₁ a₁ rl m _ i₁ (C.mono hle) ht₁ b (K.mono hle) fun ρ₂ w₂ a₂ i₂ s₂ ht₂ M E u=>?_
       have u:E= .normal:=u;subst u;exact⟨i,Nat.lt_succ_self i,by omega,t₂,d₂,σ₂,ρ₂,h',i₂,s₁.trans s₂,ht₂,M⟩
      have h'':CR.ok e₂ t₂ d₂ σ₂= .ok e t' d' O':=by cases e₂<;>first | exact absurd rfl he | exact h'
      cases h'';exact hSi.run x t₁ n d₁ ro σ₁ _ _ _ _ hx ρ₁ w₁ a₁ rl m _ i₁ (C.mono hle) ht₁ b (K.mono hle) fun ρ₂ w₂ a₂ i₂ s₂ ht₂ M=>xH he (A ρ₂ w₂ a₂ i₂ (s₁.trans s₂) ht₂ M)
   | _=>cases h
theorem pD (hm:P.follows .mixedOrders=true) (b:Bi P G) {fuel f:Nat} {args:List V} {O O':N} {v:V} (h:wu P G fuel f args O= .ret v O') {I:dg} {w:World} {xs:Array Value} (hi:Inv I O w) (d:GR I G) (hx:dA I args xs.toList)
  {R:Ending->World->Prop} (u:∀(I':dg) (w':World) (x:Value),Inv I' O' w'->eY I O w I' O' w'->VR I' v x->R (.returned x) w'):Calls P f xs w R:=
 callsIn_wide.1 (vZ (Hs hm b fuel) h hi d hx none 0 u)
def σ0:N:=⟨0,.leaf⟩
end
end Go.Ev
namespace Go.Ev
variable [Env]
open Go.ChangeShapes Go.WideShapes Go.ChangeAt Go.RowKit
theorem jK.kept {w w':World} (h:jK w w') (may:MemPlace->Prop):w.keptBut w' may:=by
 refine⟨h.os,h.out,fun i hi=>?_⟩;rw[h.same i hi]
 grind
theorem jK.frozen {w w':World} (h:jK w w') (a:Addr) (b:a.block<w.heap.size):w'.frozen? a=w.frozen? a:=by
 unfold World.frozen?;rw[h.same a.block b]
theorem Ey {H_:Type} {enc:TypeId×Value->H_} {P:Program} {f:Func} {s:ChangeSpec} {apart fresh handsOn again:Bool} {W W':World} {args:Array Value} {v:Value} {ds gs:List (DataW H_)} {before pa pv:List MemPlace}
  (A:DataW.Whole enc P f.params.toList s.vars apart W args.toList ds gs before)
  (w:∀(b:Nat) (sp:Nat->Bool) (C:Bool),DataW.TrodAll enc P W' b sp C f.resultTypes.toList (v.resultList f.resultTypes.size) (s.fn H_ (ds++gs)).results [])
  (d:∀sp:Nat->Bool,(∀p∈before,sp p.block=true)->DataW.TrodAll enc P W' 0 sp true f.params.toList args.toList (s.fn H_ (ds++gs)).args pa)
  (u:∀sp:Nat->Bool,(∀p∈before,sp p.block=true)->DataW.TrodVars enc P W' sp s.vars (s.fn H_ (ds++gs)).vars pv)
  (aa:before=pa++pv) (hk:jK W W')
  (B:∀(j:Nat) (t:TypeId) (r:Value),f.resultTypes[j]?=some t->(v.resultList f.resultTypes.size)[j]?=some r->Value.okWide P W' .any 0 t r):
  s.post enc P f apart fresh handsOn again W args v W':=by
 have hold:∀p∈before,(fun b=>decide (b<W.heap.size)) p.block=true:=fun p hp=>by simpa using A.lt p hp
 refine⟨ds,gs,before,[],pa,pv,A,w _ _ _,d _ hold,u _ hold,hk.kept _,fun _=>?_⟩;have hlt:=A.lt;obtain⟨_,_,_,_,_,E,hn⟩:=A;refine⟨B,_,_,([]++pa)++pv,⟨[]++pa,pv,trodAll_append (d _ (fun _ _=>Z))<|w _ _ _,u _ (fun _ _=>Z),Z,?_,?_⟩,?_⟩
 ·intro b off hp;have z:MemPlace.cell b off∈before:=by simp_all
  rw[hk.frozen _<|hlt _ z];exact E b off z
 ·simp_all
 simp_all
end Go.Ev
namespace Go.Ev
variable [Env]
structure IK where
 k:IntKind
 n:Int
structure PO where
 b:Pos
 off:Nat
structure SL where
 b:Pos
 off:Nat
 len:Nat
def Of:V->Option IK
 | .int k n=>some ⟨k,n⟩
 | _=>none
def PX:V->Option PO
 | .ptr b off=>some ⟨b,off⟩
 | _=>none
def Rd:V->Option SL
 | .slice b off len _=>some ⟨b,off,len⟩
 | _=>none
def Rc:V->Option Nat
 | .int _ (.ofNat i)=>some i
 | _=>none
def Rb:V->Option Bool
 | .bool b=>some b
 | _=>none
def Re:V->Option (List V)
 | .tuple l=>some l
 | _=>none
def rowOf:cN->Option (List V)
 | .row cells _ _=>some cells
 | .own cells _=>some cells
 | _=>none
theorem Bx {v:V} {i:IK} (h:Of v=some i):v= .int i.k i.n:=by
 unfold Of at h;grind
def pe (O:N) (e:Nat) (v:Option V):HR:=Option.rec (motive:=fun _=>HR) (.err e) (fun v=>.val v O) v
theorem m4 (O:N) (e:Nat) (v:Option V):pe O e v=match v with | some v=>.val v O | none=>.err e:=by cases v<;>rfl
structure QL where
 run:PT V->Option V
def nF (G:Cx) (x:Operand):QL:=
 match x with
 | .tmp k=>bif Nat.ble k 255 then⟨fun t=>jI t.s k⟩ else⟨fun t=>t.get k⟩
 | .const v=>⟨fun _=>pP v⟩
 | .global g=>⟨fun _=>bif Nat.ble (Nat.succ g) G.gl then some (.ptr (posOf g) 0) else none⟩
 | .func f=>⟨fun _=>some (.func f [] [])⟩
theorem iG (G:Cx) (x:Operand) (t:PT V):(nF G x).run t=bp G t x:=by
 cases x with
 | tmp k=>
  show(bif Nat.ble k 255 then(⟨fun t=>jI t.s k⟩:QL) else⟨fun t=>t.get k⟩).run t=t.get k
  grind [PT.pH,oj]
 | _=>rfl
structure QJ where
 run:V->V->Option V
def IU (P:Program) (q:Bool) (o:BinOp) (ty:TypeId) (f:IntKind->Int->Int->V) (a b:V):Option V:=
 Option.rec (motive:=fun _=>Option V) (sG P q o ty a b) (fun i=>Option.rec (motive:=fun _=>Option V) (sG P q o ty a b) (fun j=>bif sy i.k j.k then some (f i.k i.n j.n) else none) (Of b)) (Of a)
theorem No {P:Program} {q:Bool} {o:BinOp} {ty:TypeId} {f:IntKind->Int->Int->V} (h:∀k x k' y,sG P q o ty (.int k x) (.int k' y)=bif sy k k' then some (f k x y) else none) (a b:V):IU P q o ty f a b=sG P q o ty a b:=by
 unfold IU;cases d:Of a with
 | none=>rfl
 | some i=>
  cases hb:Of b with
  | none=>rfl
  | some j=>
   rw[Bx d,Bx hb,h]
def Ro (_:IntKind) (x y:Int):V:=.bool (cq x y)
def Rj (_:IntKind) (x y:Int):V:=.bool (cq y x)
def Rm (_:IntKind) (x y:Int):V:=.bool (bif cq y x then false else true)
def Ri (_:IntKind) (x y:Int):V:=.bool (bif cq x y then false else true)
def Rh (_:IntKind) (x y:Int):V:=.bool (H x y)
def Rq (_:IntKind) (x y:Int):V:=.bool (bif H x y then false else true)
def PV (k:IntKind) (x y:Int):V:=.int k (wr k<|Int.add x y)
def QD (k:IntKind) (x y:Int):V:=.int k (wr k<|Int.sub x y)
def Qa (k:IntKind) (x y:Int):V:=.int k (wr k<|Int.mul x y)
def Oy (P:Program) (q:Bool) (o:BinOp) (ty:TypeId):QJ:=
 match o with
 | .lss=>⟨IU P q .lss ty Ro⟩
 | .gtr=>⟨IU P q .gtr ty Rj⟩
 | .leq=>⟨IU P q .leq ty Rm⟩
 | .geq=>⟨IU P q .geq ty Ri⟩
 | .eql=>⟨IU P q .eql ty Rh⟩
 | .neq=>⟨IU P q .neq ty Rq⟩
 | .add=>⟨IU P q .add ty PV⟩
 | .sub=>⟨IU P q .sub ty QD⟩
 | .mul=>⟨IU P q .mul ty Qa⟩
 | o=>⟨fun a b=>sG P q o ty a b⟩
theorem MQ (P:Program) (q:Bool) (o:BinOp) (ty:TypeId) (a b:V):(Oy P q o ty).run a b=sG P q o ty a b:=by
 cases o<;>first | rfl | exact No (fun _ _ _ _=>Z) a b
def Ox (c:QJ) (x y:Option V):Option V:=
 Option.rec (motive:=fun _=>Option V) none (fun a=>Option.rec (motive:=fun _=>Option V) none (fun b=>c.run a b) y) x
def FV (c a b:Option V):Option V:=
 Option.rec (motive:=fun _=>Option V) none (fun c=>Option.rec (motive:=fun _=>Option V) none (fun c=>bif c then a else b) (Rb c)) c
def OE (i:Nat) (x:Option V):Option V:=
 Option.rec (motive:=fun _=>Option V) none (fun x=>Option.rec (motive:=fun _=>Option V) none (fun l=>nth l i) (Re x)) x
def P9 (ag:Option (Option Nat)) (cells:List V) (off:Nat):Option V:=
 Option.rec (motive:=fun _=>Option V) none (fun o=>Option.rec (motive:=fun _=>Option V) (nth cells off) (fun n=>bif Nat.ble (Nat.add off n) (dn cells) then some (.agg<|takeN (dU cells off) n) else none) o) ag
def Cg (ag:Option (Option Nat)) (O:N) (x:Option V):Option V:=
 Option.rec (motive:=fun _=>Option V) none (fun v=>Option.rec (motive:=fun _=>Option V) none (fun p=>Option.rec (motive:=fun _=>Option V) none
  (fun o=>Option.rec (motive:=fun _=>Option V) none (fun cells=>P9 ag cells p.off) (rowOf o)) (O.m.get p.b))<|PX v) x
def nw (P:Program) (s:TypeId) (i:Nat):Option Nat:=
 match structOf P s with
 | some fs=>match fs[i]? with
  | some f=>match uH P f.type with
   | some j=>bif Nat.beq j.size 0 then none else some f.offset
   | none=>none
  | none=>none
 | none=>none
def Ps (k:Option Nat) (x:Option V):Option V:=
 Option.rec (motive:=fun _=>Option V) none (fun k=>Option.rec (motive:=fun _=>Option V) none (fun v=>Option.rec (motive:=fun _=>Option V) none (fun p=>some (.ptr p.b<|Nat.add p.off k)) (PX v)) x) k
structure IA where
 n:Option Nat
 sz:Nat
def wH (P:Program) (t:TypeId):Option IA:=
 match oO P t with
 | some (.slice e)=>match uH P e with | some j=>some ⟨none,j.size⟩ | none=>none
 | some (.array n e)=>match uH P e with | some j=>some ⟨some n,j.size⟩ | none=>none
 | _=>none
def P8 (q:IA) (v:V) (i:Nat):Option V:=
 Option.rec (motive:=fun _=>Option V)
  (Option.rec (motive:=fun _=>Option V) none (fun s=>bif Nat.ble (Nat.succ i) s.len then some (.ptr s.b<|Nat.add s.off<|Nat.mul i q.sz) else none)<|Rd v)
  (fun n=>Option.rec (motive:=fun _=>Option V) none (fun p=>bif Nat.ble (Nat.succ i) n then some (.ptr p.b<|Nat.add p.off<|Nat.mul i q.sz) else none) (PX v)) q.n
def Pt (q:Option IA) (x i:Option V):Option V:=
 Option.rec (motive:=fun _=>Option V) none (fun q=>Option.rec (motive:=fun _=>Option V) none (fun v=>Option.rec (motive:=fun _=>Option V) none
  (fun w=>Option.rec (motive:=fun _=>Option V) none (fun i=>P8 q v i) (Rc w)) i) x) q
structure PQ where
 run:PT V->N->HR
def BG (P:Program) (G:Cx) (O:N) (f:Option V) (args:Option (List V)):HR:=
 Option.rec (motive:=fun _=>HR) (.err 12) (fun g=>Option.rec (motive:=fun _=>HR) (.err 12) (fun args=>yt P G.ov O g args) args) f
def GW (G:Cx) (l:List Operand) (t:PT V):Option (List V):=cQ (fun x=>(nF G x).run t) l
def LC (P:Program) (G:Cx) (op:Op):PQ:=
 match op with
 | .move x=>⟨fun t O=>pe O 1001 ((nF G x).run t)⟩
 | .assign x=>⟨fun t O=>pe O 1002 ((nF G x).run t)⟩
 | .pick c a b=>⟨fun t O=>pe O 1003 (FV ((nF G c).run t) ((nF G a).run t) ((nF G b).run t))⟩
 | .binOp o ty x y _=>⟨fun t O=>pe O 1014 (Ox (Oy P (yV x || yV y) o ty) ((nF G x).run t) ((nF G y).run t))⟩
 | .extract x i=>⟨fun t O=>pe O 1036 (OE i ((nF G x).run t))⟩
 | .load ty x=>⟨fun t O=>pe O 2009 (Cg (dT P ty) O ((nF G x).run t))⟩
 | .fieldAddr s x i=>⟨fun t O=>pe O 1024 (Ps (nw P s i) ((nF G x).run t))⟩
 | .indexAddr ty x i=>⟨fun t O=>pe O 1026 (Pt (wH P ty) ((nF G x).run t) ((nF G i).run t))⟩
 | .call c=>match c.callee with
  | .value f=>⟨fun t O=>BG P G O ((nF G f).run t) (GW G c.args.toList t)⟩
  | _=>⟨fun t O=>dW P G (bp G t) O (.call c)⟩
 | op=>⟨fun t O=>dW P G (bp G t) O op⟩
theorem Jq (P:Program) (G:Cx) (op:Op) (t:PT V) (O:N):(LC P G op).run t O=dW P G (bp G t) O op:=by
 cases op with
 | move x=>show pe O 1001 ((nF G x).run t)=_;rw[iG,m4];rfl
 | assign x=>show pe O 1002 ((nF G x).run t)=_;rw[iG,m4];rfl
 | pick c a b=>
  show pe O 1003 (FV ((nF G c).run t) ((nF G a).run t) ((nF G b).run t))=_;rw[iG,iG,iG,m4]
  have:FV (bp G t c) (bp G t a) (bp G t b)=dj P (bp G t) (.pick c a b):=by
   simp only[dj,FV];cases bp G t c with
   | none=>rfl
   | some v=>cases v<;>first | rfl | (rename_i b;cases b<;>rfl)
  rw[this];rfl
 | binOp o ty x y r=>
  show pe O 1014 (Ox (Oy P (yV x || yV y) o ty) ((nF G x).run t) ((nF G y).run t))=_;rw[iG,iG,m4]
  have:Ox (Oy P (yV x || yV y) o ty) (bp G t x) (bp G t y)=dj P (bp G t) (.binOp o ty x y r):=by
   simp only[dj,Ox];cases bp G t x with
   | none=>rfl
   | some v=>
    cases bp G t y with
    | none=>rfl
    | some u=>exact MQ P _ o ty v u
  rw[this];rfl
 | extract x i=>
  show pe O 1036 (OE i ((nF G x).run t))=_;rw[iG,m4]
  have:OE i (bp G t x)=dj P (bp G t) (.extract x i):=by
   simp only[dj,OE];cases bp G t x with
   | none=>rfl
   | some v=>cases v<;>rfl
  rw[this];rfl
 | load ty x=>
  show pe O 2009 (Cg (dT P ty) O ((nF G x).run t))=_;rw[iG,m4]
  have:Cg (dT P ty) O (bp G t x)=gp P (bp G t) O (.load ty x):=by
   simp only[gp,Cg];cases bp G t x with
   | none=>rfl
   | some v=>
    cases v<;>first | rfl | skip
    rename_i b off;show Option.rec (motive:=fun _=>Option V) none _ (O.m.get b)=_;cases hb:O.m.get b with
    | none=>dsimp only;rw[hb]
    | some o=>
     dsimp only;rw[hb];cases o<;>first | rfl | skip
     all_goals
      show P9 (dT P ty) _ off=_;unfold P9;cases dT P ty with
      | none=>rfl
      | some q=>cases q<;>rfl
  rw[this];rfl
 | fieldAddr s x i=>
  show pe O 1024 (Ps (nw P s i) ((nF G x).run t))=_;rw[iG,m4]
  have:Ps (nw P s i) (bp G t x)=dj P (bp G t) (.fieldAddr s x i):=by
   simp only[dj,nw,pJ];cases structOf P s with
   | none=>rfl
   | some fs=>
    dsimp only;cases hx:bp G t x with
    | none=>
     cases fs[i]? with
     | none=>rfl
     | some f=>dsimp only;cases P.info? f.type with
      | none=>rfl
      | some j=>dsimp only;cases Nat.beq j.size 0<;>rfl
    | some v=>
     cases hf:fs[i]? with
     | none=>cases v<;>first | rfl | (simp only[hf];rfl)
     | some f=>
      dsimp only;cases hj:P.info? f.type with
      | none=>cases v<;>first | rfl | (simp only[hf,hj];rfl)
      | some j=>
       dsimp only;cases z:Nat.beq j.size 0<;>(cases v<;>first | rfl | (simp only[hf,hj,z];rfl))
  rw[this];rfl
 | indexAddr ty x i=>
  show pe O 1026 (Pt (wH P ty) ((nF G x).run t) ((nF G i).run t))=_;rw[iG,iG,m4]
  have:Pt (wH P ty) (bp G t x) (bp G t i)=dj P (bp G t) (.indexAddr ty x i):=by
   simp only[dj,wH,pJ,nW];cases hu:P.underlying ty with
   | none=>rfl
   | some d=>
    cases d<;>first | rfl | skip
    all_goals
     dsimp only;rename_i e;cases hj:P.info? e with
     | none=>
      cases bp G t x with
      | none=>rfl
      | some v=>cases v<;>first | rfl | (cases bp G t i with
       | none=>rfl
       | some u=>cases u<;>first | rfl | (rename_i k n;cases n<;>first | rfl | (simp only[hj];rfl)))
     | some j=>
      cases bp G t x with
      | none=>rfl
      | some v=>cases v<;>first | (cases bp G t i with
       | none=>rfl
       | some u=>cases u<;>first | rfl | (rename_i k n;cases n<;>first | rfl | (simp only[hj];rfl)))
  rw[this];rfl
 | call c=>
  cases w:c.callee with
  | value f=>
   have h1:(LC P G (.call c)).run t O=BG P G O ((nF G f).run t) (GW G c.args.toList t):=by
    show(match c.callee with
     | .value f=>(⟨fun t O=>BG P G O ((nF G f).run t) (GW G c.args.toList t)⟩:PQ)
     | _=>⟨fun t O=>dW P G (bp G t) O (.call c)⟩).run t O=_
    rw[w]
   have A:dW P G (bp G t) O (.call c)=gf P G.ov (bp G t) O (.call c):=by
    grind [dW,kindOf]
   have h3:GW G c.args.toList t=lO (bp G t) c.args.toList:=by
    unfold GW lO;congr 1;funext x;exact iG G x t
   rw[h1,A,iG,h3];simp only[gf,w,BG];cases bp G t f with
   | none=>rfl
   | some g=>cases lO (bp G t) c.args.toList<;>rfl
  | _=>
   show(match c.callee with
     | .value f=>(⟨fun t O=>BG P G O ((nF G f).run t) (GW G c.args.toList t)⟩:PQ)
     | _=>⟨fun t O=>dW P G (bp G t) O (.call c)⟩).run t O=_
   rw[w]
 | _=>rfl
structure Oq where
 run:PT V->V->Nat->(PT V->CR)->CR
structure Q9 where
 run:V->PT V->PT V
def HT (j:Nat):Q9:=
 bif Nat.ble j 255 then⟨fun v t=>PT.rec (motive:=fun _=>PT V) (fun s m l=>⟨(xL<|Nat.div j 16).run s ((xL<|Nat.mod j 16).run ((jE<|Nat.div j 16).run s)<|some v),m,l⟩) t⟩
 else⟨fun v t=>t.put (some v) j⟩
theorem Ny (j:Nat) (v:V) (t:PT V):(HT j).run v t=t.put (some v) j:=by
 unfold HT;cases h:Nat.ble j 255 with
 | true=>
  cases t with
  | mk s m l=>exact(PT.s9 (some v) s m l ((oj j 255).1 h)).symm
 | false=>rfl
def Nz (j:Nat) (v:V) (t:PT V):PT V:=(HT j).run v t
theorem LJ (j:Nat) (v:V) (t:PT V):Nz j v t=t.put (some v) j:=Ny j v t
def Bg (n:Nat) (dst:Option Nat):Oq:=
 match dst with
 | none=>⟨fun t _ _ k=>k t⟩
 | some j=>bif Nat.ble (Nat.succ j) n then⟨fun t v _ k=>k (Nz j v t)⟩ else⟨fun _ _ e _=>.err e⟩
theorem Aq (n:Nat) (dst:Option Nat) (t:PT V) (v:V) (e:Nat) (k:PT V->CR):(Bg n dst).run t v e k=match dP t n dst v with | some t'=>k t' | none=>.err e:=by
 cases dst with
 | none=>rfl
 | some j=>
  show(bif Nat.ble (Nat.succ j) n then(⟨fun t v _ k=>k (Nz j v t)⟩:Oq) else⟨fun _ _ e _=>.err e⟩).run t v e k=_;show _=match(bif Nat.ble (Nat.succ j) n then some (t.put (some v) j) else none) with | some t'=>k t' | none=>.err e
  rw[<-LJ]
  grind
structure Q7 where
 run:kI->List V->N->KR
def Qu (P:Program) (G:Cx) (ih:kI) (fn:Func) (r:CR):KR:=
 match r with
 | .ok .normal t d O=>xZ P G ih fn .ret t d O
 | .ok .ret t d O=>xZ P G ih fn .ret t d O
 | .ok (.mr v) t d O=>xZ P G ih fn (.mr v) t d O
 | .err k=>.err k
 | _=>.err 72
def Nf (P:Program) (G:Cx) (fn:Func) (c:Code) (ih:kI) (args:List V) (O:N):KR:=
 Option.rec (motive:=fun _=>KR) (.err 73) (fun t=>Qu P G ih fn (ih c t fn.ntmps [] none O)) (ra fn.ntmps args)
def P7 (P:Program) (G:Cx) (f:Nat):Q7:=
 match nth P.funcs.toList f with
 | some fn=>match fn.body with
  | some c=>⟨Nf P G fn c⟩
  | none=>⟨fun _ _ _=>.err 73⟩
 | none=>⟨fun _ _ _=>.err 74⟩
theorem Nd (P:Program) (G:Cx) (f:Nat) (ih:kI) (args:List V) (O:N):(P7 P G f).run ih args O=kM P G ih f args O:=by
 unfold P7 kM;rw[eU,aT_];cases P.funcs[f]? with
 | none=>rfl
 | some fn=>
  dsimp only;cases hb:fn.body with
  | none=>rfl
  | some c=>
   dsimp only;show Nf P G fn c ih args O=_;unfold Nf;cases ra fn.ntmps args with
   | none=>rfl
   | some t=>rfl
def BE (P:Program) (G:Cx) (ih:kI) (f:Nat) (args:List V) (O:N):KR:=
 Option.rec (motive:=fun _=>KR) (Option.rec (motive:=fun _=>KR) (Option.rec (motive:=fun _=>KR) (bif G.fk f then sd (pG P G ih f args O) else(P7 P G f).run ih args O) (fun c=>.err c)<|G.stop f args O) (fun v=>bif eL args && (mS v && ng G.gl O G.laid) then .ret v O else .err 79)<|G.HU f args) (fun v=>bif mS v then .ret v O else .err 78) (G.HS f args O)
theorem BF (P:Program) (G:Cx) (ih:kI) (f:Nat) (args:List V) (O:N):BE P G ih f args O=lY P G ih f args O:=by
 unfold BE lY;rw[Nd];cases G.HS f args O with
 | some v=>rfl
 | none=>
 dsimp only;cases G.HU f args with
 | some v=>rfl
 | none=>
  dsimp only;cases G.stop f args O<;>rfl
structure KI where
 run:kI->PT V->N->(PT V->N->CR)->CR
def Lq (k:PT V->N->CR) (O:N) (t:PT V):CR:=k t O
def QQ (pn:Bool) (c:Oq) (t:PT V) (k:PT V->N->CR) (r:KR):CR:=
 KR.rec (motive:=fun _=>CR) (fun v O=>c.run t v 80 (Lq k O)) (fun v O=>LG pn v t O) (fun e=>.err e) r
def Lj (P:Program) (G:Cx) (ih:kI) (pn:Bool) (c:Oq) (t:PT V) (k:PT V->N->CR) (r:HR):CR:=
 HR.rec (motive:=fun _=>CR) (fun v O=>c.run t v 80 (Lq k O)) (fun O=>c.run t unit 80 (Lq k O)) (fun f args O=>QQ pn c t k (BE P G ih f args O)) (fun _ _ _=>.err 66) (fun v O=>LG pn v t O) (fun e=>.err e) r
def Kt (ops:Array Oper) (o:Oper) (c:Oq) (t:PT V) (O:N) (k:PT V->N->CR) (go:CR) (w:Option Bool):CR:=
 Option.rec (motive:=fun _=>CR) (.err 85) (fun b=>bif b then go else c.run t unit 84 (Lq k O)) w
def Q2 (P:Program) (G:Cx) (j:Nat) (op:Op):Option KI:=
 match op with
 | .move x=>some ⟨fun _ t O k=>Option.rec (motive:=fun _=>CR) (.err 1001) (fun v=>k ((HT j).run v t) O) ((nF G x).run t)⟩
 | .assign x=>some ⟨fun _ t O k=>Option.rec (motive:=fun _=>CR) (.err 1002) (fun v=>k ((HT j).run v t) O) ((nF G x).run t)⟩
 | .binOp o ty x y _=>some ⟨fun _ t O k=>Option.rec (motive:=fun _=>CR) (.err 1014) (fun v=>k ((HT j).run v t) O) (Ox (Oy P (yV x || yV y) o ty) ((nF G x).run t) ((nF G y).run t))⟩
 | .extract x i=>some ⟨fun _ t O k=>Option.rec (motive:=fun _=>CR) (.err 1036) (fun v=>k ((HT j).run v t) O) (OE i ((nF G x).run t))⟩
 | .load ty x=>some ⟨fun _ t O k=>Option.rec (motive:=fun _=>CR) (.err 2009) (fun v=>k ((HT j).run v t) O) (Cg (dT P ty) O ((nF G x).run t))⟩
 | .fieldAddr s x i=>some ⟨fun _ t O k=>Option.rec (motive:=fun _=>CR) (.err 1024) (fun v=>k ((HT j).run v t) O) (Ps (nw P s i) ((nF G x).run t))⟩
 | .indexAddr ty x i=>some ⟨fun _ t O k=>Option.rec (motive:=fun _=>CR) (.err 1026) (fun v=>k ((HT j).run v t) O) (Pt (wH P ty) ((nF G x).run t) ((nF G i).run t))⟩
 | _=>none
theorem NK {P:Program} {G:Cx} {pn:Bool} {n j:Nat} (hj:Nat.ble (Nat.succ j) n=true) {op:Op} {c:KI} (h:Q2 P G j op=some c) (ih:kI) (t:PT V) (O:N) (k:PT V->N->CR):
  c.run ih t O k=Lj P G ih pn (Bg n<|some j) t k ((LC P G op).run t O):=by
 have key:∀(e:Nat) (x:Option V),Option.rec (motive:=fun _=>CR) (.err e) (fun v=>k ((HT j).run v t) O) x=Lj P G ih pn (Bg n<|some j) t k (pe O e x):=by
  intro e x;cases x with
  | none=>rfl
  | some v=>
   show k ((HT j).run v t) O=(Bg n<|some j).run t v 80 (Lq k O);unfold Bg;dsimp only;rw[hj];rfl
 cases op<;>first | (cases h;done) | (cases h;exact key _ _)
def QC (P:Program) (G:Cx) (pn:Bool) (n:Nat) (o:Oper):KI:=
 match o.dst with
 | some j=>bif Nat.ble (Nat.succ j) n then(match Q2 P G j o.op with | some c=>c | none=>⟨fun ih t O k=>Lj P G ih pn (Bg n<|some j) t k ((LC P G o.op).run t O)⟩) else⟨fun ih t O k=>Lj P G ih pn (Bg n<|some j) t k ((LC P G o.op).run t O)⟩
 | none=>⟨fun ih t O k=>Lj P G ih pn (Bg n none) t k ((LC P G o.op).run t O)⟩
theorem NJ (P:Program) (G:Cx) (pn:Bool) (n:Nat) (o:Oper) (ih:kI) (t:PT V) (O:N) (k:PT V->N->CR):(QC P G pn n o).run ih t O k=Lj P G ih pn (Bg n o.dst) t k ((LC P G o.op).run t O):=by
 unfold QC;cases hd:o.dst with
 | none=>rfl
 | some j=>
  dsimp only;cases hj:Nat.ble (Nat.succ j) n with
  | false=>rfl
  | true=>
   simp only[cond_true]
   grind [NK]
def KE (P:Program) (G:Cx) (pn:Bool) (ops:Array Oper) (n:Nat) (o:Oper):KI:=
 match o.guard with
 | none=>QC P G pn n o
 | some _=>⟨fun ih t O k=>Kt ops o (Bg n o.dst) t O k (Lj P G ih pn (Bg n o.dst) t k ((LC P G o.op).run t O)) (bH ops t o)⟩
theorem IS (P:Program) (G:Cx) (ih:kI) (pn:Bool) (n:Nat) (dst:Option Nat) (t:PT V) (k:PT V->N->CR) (r:HR):
  Lj P G ih pn (Bg n dst) t k r=match lE P G ih r with | .ret v O'=>(match dP t n dst v with | some t'=>k t' O' | none=>.err 80) | .mr v O'=>LG pn v t O' | .err e=>.err e:=by
 cases r with
 | val v O=>show(Bg n dst).run t v 80 (Lq k O)=_;rw[Aq];rfl
 | skip O=>show(Bg n dst).run t unit 80 (Lq k O)=_;rw[Aq];rfl
 | enter f args O=>
  show QQ pn (Bg n dst) t k (BE P G ih f args O)=_;rw[BF];show _=match lY P G ih f args O with | .ret v O'=>_ | .mr v O'=>_ | .err e=>_
  cases lY P G ih f args O with
  | ret v O'=>show(Bg n dst).run t v 80 (Lq k O')=_;rw[Aq];rfl
  | mr v O'=>rfl
  | err e=>rfl
 | round l args O=>
  rfl
 | mr v O=>rfl
 | err e=>rfl
theorem EO (P:Program) (G:Cx) (pn:Bool) (ops:Array Oper) (n:Nat) (o:Oper) (ih:kI) (t:PT V) (O:N) (k:PT V->N->CR):(KE P G pn ops n o).run ih t O k=jg P G ih pn ops n o t O k:=by
 unfold KE jg;cases hg:o.guard with
 | none=>
  grind [bH,NJ,IS,Jq]
 | some jw=>
  show Kt ops o (Bg n o.dst) t O k (Lj P G ih pn (Bg n o.dst) t k ((LC P G o.op).run t O)) (bH ops t o)=_;rw[IS,Jq];unfold Kt;cases bH ops t o with
  | none=>rfl
  | some b=>
   grind [Lq,Aq]
def LS (P:Program) (G:Cx) (ops:Array Oper) (n:Nat) (l:List Oper):KI:=
 List.rec (motive:=fun _=>KI) ⟨fun _ t O k=>k t O⟩ (fun o _ c=>⟨fun ih t O k=>(KE P G true ops n o).run ih t O (fun t O=>c.run ih t O k)⟩) l
def xY (d:List DE) (t:PT V) (O:N):CR:=.ok .normal t d O
theorem F3 (P:Program) (G:Cx) (ops:Array Oper) (n:Nat) (ih:kI) (d:List DE):∀(l:List Oper) (t:PT V) (O:N),(LS P G ops n l).run ih t O (xY d)=tX P G ih ops n d l t O
 | [],t,O=>rfl
 | o::l,t,O=>by
  show(KE P G true ops n o).run ih t O (fun t O=>(LS P G ops n l).run ih t O (xY d))=jg P G ih true ops n o t O (tX P G ih ops n d l);rw[EO];congr 1;funext t' O';exact F3 P G ops n ih d l t' O'
def zD (P:Program) (G:Cx) (ops:Array Oper) (rc:List Nat) (k:PT V->N->CR) (t:PT V) (O:N):CR:=bif du P G ops t O rc then k t O else .err 86
def xe (P:Program) (G:Cx) (ops:Array Oper) (n:Nat) (l:List (Nat×List Nat)):KI:=
 List.rec (motive:=fun _=>KI) ⟨fun _ t O k=>k t O⟩ (fun p _ c=>match nth ops.toList p.1 with
  | some o=>(match p.2 with
   | []=>⟨fun ih t O k=>(KE P G false ops n o).run ih t O (fun t O=>c.run ih t O k)⟩
   | rc=>⟨fun ih t O k=>(KE P G false ops n o).run ih t O (zD P G ops rc (fun t O=>c.run ih t O k))⟩)
  | none=>⟨fun _ _ _ _=>.err 87⟩) l
theorem xg (P:Program) (G:Cx) (ops:Array Oper) (n:Nat) (ih:kI) (d:List DE):∀(l:List (Nat×List Nat)) (t:PT V) (O:N),(xe P G ops n l).run ih t O (xY d)=jP P G ih ops n d l t O
 | [],t,O=>rfl
 | (i,rc)::l,t,O=>by
  show(match nth ops.toList i with
   | some o=>(match rc with
    | []=>(⟨fun ih t O k=>(KE P G false ops n o).run ih t O (fun t O=>(xe P G ops n l).run ih t O k)⟩:KI)
    | rc=>⟨fun ih t O k=>(KE P G false ops n o).run ih t O (zD P G ops rc (fun t O=>(xe P G ops n l).run ih t O k))⟩)
   | none=>⟨fun _ _ _ _=>.err 87⟩).run ih t O (xY d)=(match ops[i]? with
   | some o=>jg P G ih false ops n o t O (fun t' O'=>bif du P G ops t' O' rc then jP P G ih ops n d l t' O' else .err 86)
   | none=>.err 87)
  rw[eU,aT_];cases ops[i]? with
  | none=>rfl
  | some o=>
   dsimp only;cases rc with
   | nil=>
    show(KE P G false ops n o).run ih t O (fun t O=>(xe P G ops n l).run ih t O (xY d))=_;rw[EO];congr 1;funext t' O';exact xg P G ops n ih d l t' O'
   | cons q rc=>
    show(KE P G false ops n o).run ih t O (zD P G ops (q::rc) (fun t O=>(xe P G ops n l).run ih t O (xY d)))=_;rw[EO];congr 1;funext t' O';unfold zD;dsimp only;rw[xg P G ops n ih d l t' O']
structure PN where
 run:kI->PT V->List DE->Option Pos->N->CR
def PZ (P:Program) (G:Cx) (c:Code) (n:Nat):PN:=
 match c with
 | .skip | .label _=>⟨fun _ t d _ O=>.ok .normal t d O⟩
 | .region _ ops draw=>bif draw then(bif tP P ops then⟨fun ih t d _ O=>(xe P G ops n<|jh P ops).run ih t O (xY d)⟩ else⟨fun _ _ _ _ _=>.err 88⟩)
   else(bif mg ops.toList then⟨fun _ _ _ _ _=>.err 96⟩ else⟨fun ih t d _ O=>BV d ((LS P G ops n ops.toList).run ih t O<|xY d)⟩)
 | .seq a b=>⟨fun ih t d ro O=>yf (ih a t n d ro O) (fun t d O=>ih b t n d ro O)⟩
 | .cond x a b=>⟨fun ih t d ro O=>yC ((nF G x).run t) (ih a t n d ro O) (ih b t n d ro O)⟩
 | .block id b=>⟨fun ih t d ro O=>tI id (ih b t n d ro O)⟩
 | .scope b=>⟨fun ih t d ro O=>EI (ih b t n d ro O)⟩
 | .loop b=>⟨fun ih t d ro O=>yf (ih b t n d ro O) (fun t d O=>ih (.loop b) t n d ro O)⟩
 | .exit id=>⟨fun _ t d _ O=>.ok (.exit id) t d O⟩
 | .ret=>⟨fun _ t d _ O=>.ok .ret t d O⟩
 | _=>⟨fun _ _ _ _ _=>.err 99⟩
theorem MV (P:Program) (G:Cx) (c:Code) (n:Nat) (ih:kI) (t:PT V) (d:List DE) (ro:Option Pos) (O:N):(PZ P G c n).run ih t d ro O=Gc P G ih c t n d ro O:=by
 cases c with
 | region id ops draw=>
  cases draw with
  | false=>
   show(bif mg ops.toList then(⟨fun _ _ _ _ _=>.err 96⟩:PN) else⟨fun ih t d _ O=>BV d ((LS P G ops n ops.toList).run ih t O<|xY d)⟩).run ih t d ro O=bif mg ops.toList then .err 96 else BV d (tX P G ih ops n d ops.toList t O)
   grind [F3]
  | true=>
   show(bif tP P ops then(⟨fun ih t d _ O=>(xe P G ops n<|jh P ops).run ih t O (xY d)⟩:PN) else⟨fun _ _ _ _ _=>.err 88⟩).run ih t d ro O=uC P G ih ops n d t O
   grind [uC,xg]
 | cond x a b=>show yC ((nF G x).run t) _ _=_;rw[iG];rfl
 | _=>rfl
def NH (P:Program) (G:Cx) (fuel:Nat):kI:=Nat.rec (motive:=fun _=>kI) (fun _ _ _ _ _ _=>.err 100) (fun _ ih c t n d ro O=>(PZ P G c n).run ih t d ro O) fuel
theorem F9 (P:Program) (G:Cx):∀(fuel:Nat),NH P G fuel=eH P G fuel
 | 0=>rfl
 | k+1=>by
  funext c t n d ro O;show(PZ P G c n).run (NH P G k) t d ro O=Gc P G (eH P G k) c t n d ro O;rw[MV,F9 P G k]
def BS (P:Program) (G:Cx) (fuel:Nat) (f:Nat) (args:List V) (O:N):KR:=BE P G (NH P G fuel) f args O
theorem IC (P:Program) (G:Cx) (fuel:Nat) (f:Nat) (args:List V) (O:N):BS P G fuel f args O=wu P G fuel f args O:=by
 unfold BS wu;rw[BF,F9]
end Go.Ev
namespace Go.Ev
variable [Env]
open Go.ChangeShapes Go.WideShapes Go.ChangeAt Go.RowKit
def yO (one:TypeId->DataW Unit->Option (List Value)) (P:Program):List (Nat×TypeId)->Nat->List (DataW Unit)->Option (List Value)
 | [],_,[]=>some []
 | (o,t)::l,off,d::ds=>
  match one t d,yO one P l (off+P.cellsOf t) ds with
  | some vs,some us=>if o=off/\vs.length=P.cellsOf t then some (vs++us) else none
  | _,_=>none
 | _,_,_=>none
def rv (P:Program):Nat->TypeId->DataW Unit->Option (List Value)
 | 0,_,_=>none
 | n+1,t,d=>
  match P.underlying t,d with
  | some .bool,.lit (.bool b)=>some [.bool b]
  | some (.int k),.lit (.int k' i)=>if k'=k then some [.int k i] else none
  | some (.struct fs),.agg ps=>match yO (rv P n) P (fs.toList.map fun f=>(f.offset,f.type)) 0 ps with
   | some vs=>if vs.length=P.cellsOf t then some vs else none
   | none=>none
  | some (.array m e),.agg ps=>match yO (rv P n) P ((List.range m).map fun i=>(i*P.cellsOf e,e)) 0 ps with
   | some vs=>if vs.length=P.cellsOf t then some vs else none
   | none=>none
  | _,_=>none
theorem wz {P:Program} {w:World} {base:Nat} {sp:Nat->Bool} {held:Bool} {fuel:Nat} {one:TypeId->DataW Unit->Option (List Value)} {cs:List Value}
  (ih:∀t l d p vs,DataW.trod (fun _=>()) P w base sp held fuel t l=some (d,p)->one t d=some vs->l=vs) {α:Type} (g:α->Nat×TypeId):
  ∀(l:List α) (off:Nat) (xs:List (DataW Unit×List MemPlace)) (vs:List Value),
   (l.mapM fun x=>DataW.trod (fun _=>()) P w base sp held fuel (g x).2 ((cs.drop (g x).1).take<|P.cellsOf (g x).2))=some xs->yO one P (l.map g) off (xs.map (·.1))=some vs->
   (cs.drop off).take vs.length=vs
 | [],off,xs,vs,h,hf=>by
  simp at h;subst h;simp[yO] at hf;subst hf;simp
 | x::l,off,xs,vs,h,hf=>by
  simp only[List.mapM_cons,Option.bind_eq_bind,Option.bind_eq_some_iff,Option.pure_def,oJ_] at h;obtain⟨⟨d,p⟩,h1,r,b,rfl⟩:=h;simp only[List.map_cons,yO] at hf;split at hf
  ·rename_i v1 u e1 z;split at hf
   ·rename_i A;obtain⟨ho,hl⟩:=A;cases hf;have k1:=ih _ _ _ _ _ h1 e1;have k2:=wz ih g l _ r u b z
    grind [List.drop_drop]
   cases hf
  cases hf
theorem BW {P:Program} {w:World} {base:Nat} {sp:Nat->Bool} {held:Bool}:∀(m fuel:Nat) (t:TypeId) (cs:List Value) (d:DataW Unit) (p:List MemPlace) (vs:List Value),
  DataW.trod (fun _=>()) P w base sp held fuel t cs=some (d,p)->rv P m t d=some vs->cs=vs
 | 0,_,_,_,_,_,_,_,h=>by cases h
 | _+1,0,_,_,_,_,_,h,_=>by simp[DataW.trod] at h
 | m+1,fuel+1,t,cs,d,p,vs,h,hf=>by
  have ih:∀t l d p vs,DataW.trod (fun _=>()) P w base sp held fuel t l=some (d,p)->rv P m t d=some vs->l=vs:=fun t l d p vs=>BW m fuel t l d p vs
  simp only[rv] at hf;split at hf
  ·rename_i hu;cases hf;unfold DataW.trod at h
   grind
  ·rename_i hu;split at hf
   ·rename_i hk;cases hf;unfold DataW.trod at h
    grind
   cases hf
  ·rename_i fs ps hu;split at hf
   ·rename_i vs' u;split at hf
    ·rename_i hl;cases hf;unfold DataW.trod at h;rw[hu] at h;dsimp only at h;split at h
     ·rename_i z;obtain⟨xs,hm,hx⟩:=oM_.1 h;have b:ps=xs.map (·.1):=by simp_all
      subst b;have:=wz (cs:=cs) ih (fun f:Field=>(f.offset,f.type)) fs.toList 0 xs vs hm u
      grind
     cases h
    cases hf
   cases hf
  ·rename_i n e ps hu;split at hf
   ·rename_i vs' u;split at hf
    ·rename_i hl;cases hf;unfold DataW.trod at h;rw[hu] at h;dsimp only at h;split at h
     ·rename_i z;obtain⟨xs,hm,hx⟩:=oM_.1 h;have b:ps=xs.map (·.1):=by simp_all
      subst b;have:=wz (cs:=cs) ih (fun i:Nat=>(i*P.cellsOf e,e)) (List.range n) 0 xs vs hm u
      grind
     cases h
    cases hf
   cases hf
  cases hf
theorem oA {P:Program} {w:World} {l:List (String×DataW Unit)} (n:String) {d:DataW Unit} {g:Nat} {t:TypeId} {m:Nat} {vs:List Value}
  (h:laidMetH P l w) (hl:l.filter (fun x=>x.1 == n)= [(n,d)]) (hd:d.handleName?=none) (u:P.globalNamed n=some g) (A:(P.globals[g]?).map (·.type)=some t) (hf:rv P m t d=some vs):
  ∃e fr,w.heap[g]?=some (.cells vs.toArray e fr):=by
 have h1:=h.filter fun x=>x.1 == n
 rw[hl] at h1
 have B:laidMet P [(n,d)] w:=by
  grind [laidMetH]
 obtain⟨ps,⟨g',t',cs,fuel,p,q,z,k2,b,C,_,_⟩,_,_⟩:=B;rw[u] at z;cases z;rw[A] at k2;cases k2;have k5:=BW m fuel t cs.toList d p vs C hf;unfold World.var? at b;rw[u] at b;simp only[Option.bind_some] at b;split at b
 ·rename_i cs' e fr hh;cases b;exact⟨e,fr,by rw[hh,<-k5]⟩
 cases b
theorem vT {α β:Type} {f:α->Option β}:∀{l:List α} {r:List β},cQ f l=some r->r.length=l.length/\∀(i:Nat) (v:β),r[i]?=some v->∃y,l[i]?=some y/\f y=some v
 | [],r,h=>by
  rw[gO] at h;simp_all
 | x::l,r,h=>by
  obtain⟨y,r',h1,b,rfl⟩:=gq h;obtain⟨k1,k2⟩:=vT b
  grind
theorem kV.of {w:World} {g:Nat} {cells:List V} {vs:List Value} {e:TypeId} {fr:Nat×Nat} (hb:w.heap[g]?=some (.cells vs.toArray e fr)) (hv:cQ kb vs=some cells):kV w (g,cells):=by
 obtain⟨b,k2⟩:=vT hv;refine⟨vs.toArray,e,fr,hb,by simp[b],fun i v hi=>?_⟩
 grind [oC]
def σG (gl:Nat) (l:List (Nat×List V)) (E:Nat->TypeId):N:=⟨gl,I2 l E⟩
theorem OG_get {gl:Nat} {l:List (Nat×List V)} {E:Nat->TypeId} {b:Nat} {o:cN} (h:(σG gl l E).m.get b=some o):∃x∈l,x.1=b/\o= .row x.2 (E x.1) true:=Eg E h
def xA (w:World) (b:Nat):Nat:=
 match w.heap[b]? with
 | some (.cells cs _ _)=>cs.size
 | _=>0
def elemAt (w:World) (b:Nat):TypeId:=
 match w.heap[b]? with
 | some (.cells _ e _)=>e
 | _=>0
def ρG (w:World) (gl:Nat):dg:=fun b=>if b<gl then some ⟨b,0,xA w b⟩ else none
theorem IG_some {w:World} {gl:Nat} {b:Nat} {l:Loc} (h:ρG w gl b=some l):b<gl/\l=⟨b,0,xA w b⟩:=by
 unfold ρG at h
 simp_all
def AZ (gl:Nat) (l:List (Nat×List V)):Bool:=l.all fun x=>Nat.blt x.1 gl && eL x.2
theorem OJ {w:World} {gl:Nat} {l:List (Nat×List V)} (B:HX w) (ab:gl<=w.heap.size) (u:AZ gl l=true) (hl:∀x∈l,kV w x):Inv (ρG w gl) (σG gl l<|elemAt w) w:=by
 have aa:∀x∈l,x.1<gl/\eL x.2=true:=fun x hx=>by
  have:=aE_.1 u x hx
  simp_all
 refine⟨⟨fun b hb=>?_,fun b l' h=>?_,fun b o l' h1 d=>?_,fun b b' o o' l1 l2 h1 d h3 h4 he ac=>?_⟩,B.1,B.2,fun r _ ⟨b,o,l',h1,d,_,_⟩=>by
  obtain⟨x,_,_,rfl⟩:=OG_get h1;cases d⟩
 ·have z:¬b<gl:=Nat.not_lt.2 hb;refine⟨by unfold ρG;rw[if_neg z],?_⟩;cases h:(σG gl l<|elemAt w).m.get b with
  | none=>rfl
  | some o=>
   obtain⟨x,hx,rfl,_⟩:=OG_get h
   grind
 ·obtain⟨hb,rfl⟩:=IG_some h
  grind
 ·obtain⟨x,hx,rfl,rfl⟩:=OG_get h1;obtain⟨hb,rfl⟩:=IG_some d;obtain⟨c,e,fr,A,k2,k3⟩:=hl x hx;have C:xA w x.1=c.size:=by unfold xA;rw[A]
  have he:elemAt w x.1=e:=by unfold elemAt;rw[A]
  refine⟨_,A,c,fr,by rw[he],?_,?_,fun i v hv=>?_,fun h=>by cases h⟩
  ·simp[C]
  ·simp_all
  grind [nz,kL]
 obtain⟨x,hx,rfl,rfl⟩:=OG_get h1;obtain⟨y,hy,rfl,rfl⟩:=OG_get d;exact⟨Z,Z⟩
theorem jK.Lz {w w':World} {gl:Nat} {l:List (Nat×List V)} {E:Nat->TypeId} {I I':dg} {O':N} (h:eY I (σG gl l E) w I' O' w'):jK w w':=
 ⟨h.os,h.out,h.tape,h.size,fun r d=>h.frame r d fun⟨b,o,l',h1,u,_⟩=>by
  obtain⟨x,_,_,rfl⟩:=OG_get h1;cases u⟩
def qa:KR->Bool
 | .ret (.bool true) _=>true
 | _=>false
theorem AF {r:KR} (h:qa r=true):∃O,r= .ret (.bool true) O:=by
 unfold qa at h
 grind
theorem Dw {P:Program} {G:Cx} (hm:P.follows .mixedOrders=true) (u:Bi P G) {fuel f:Nat} {w:World} (z:HX w) (b:G.gl<=w.heap.size) (d:AZ G.gl G.laid=true) (hl:∀x∈G.laid,kV w x)
  (h:∀E,qa (BS P G fuel f [] (σG G.gl G.laid E))=true):Calls P f #[] w fun e w'=>e= .returned (.bool true)/\jK w w':=by
 have h:=h (elemAt w);rw[IC] at h;obtain⟨O,h⟩:=AF h;refine pD hm u h (OJ z b d hl) (fun g A=>⟨_,by show ρG w G.gl g=_;unfold ρG;rw[if_pos A]⟩) dA.nil fun I' w' x _ st hv=>?_
 grind [VR,jK.Lz]
theorem Ef {P:Program} {G:Cx} (hm:P.follows .mixedOrders=true) (u:Bi P G) {fuel f:Nat} (b:AZ G.gl G.laid=true) (h:∀E,qa (BS P G fuel f [] (σG G.gl G.laid E))=true):Ff P G.gl G.laid f [] (.bool true):=fun w xs d z hl hx=>by
 have:xs= #[]:=by
  have:=hx.eV
  simp_all
 subst this;exact(Dw hm u (w:=w) z d b hl h).mono fun e w' ⟨h1,A⟩=>⟨_,h1,by simp only[VR],A⟩
end Go.Ev
namespace Go.Ev
variable [Env]
section
variable {P:Program} {G:Cx}
def Ev (P:Program) (G:Cx) (c:Code) (n:Nat) (t:PT V) (O:N) (Q:Ex->PT V->N->Prop):Prop:=
 ∃(K:Nat) (e:Ex) (t':PT V) (O':N),(∀k,K<=k->eH P G k c t n [] none O= .ok e t' [] O')/\Q e t' O'
def a8 (P:Program) (G:Cx) (f:Nat) (args:List V) (O:N) (R:V->N->Prop):Prop:=
 ∃(K:Nat) (v:V) (O':N),(∀k,K<=k->lY P G (eH P G k) f args O= .ret v O')/\R v O'
def bK (P:Program) (G:Cx) (ops:Array Oper) (n:Nat) (l:List Oper) (t:PT V) (O:N) (Q:Ex->PT V->N->Prop):Prop:=
 ∃(K:Nat) (e:Ex) (t':PT V) (O':N),(∀k,K<=k->tX P G (eH P G k) ops n [] l t O= .ok e t' [] O')/\Q e t' O'
def cO (P:Program) (G:Cx) (ops:Array Oper) (n:Nat) (l:List (Nat×List Nat)) (t:PT V) (O:N) (Q:Ex->PT V->N->Prop):Prop:=
 ∃(K:Nat) (e:Ex) (t':PT V) (O':N),(∀k,K<=k->jP P G (eH P G k) ops n [] l t O= .ok e t' [] O')/\Q e t' O'
theorem Ev.mono {c:Code} {n:Nat} {t:PT V} {O:N} {Q Q':Ex->PT V->N->Prop} (h:Ev P G c n t O Q) (hq:∀e t' O',Q e t' O'->Q' e t' O'):Ev P G c n t O Q':=
 let ⟨K,e,t',O',h1,b⟩:=h;⟨K,e,t',O',h1,hq _ _ _ b⟩
theorem a8.mono {f:Nat} {args:List V} {O:N} {R R':V->N->Prop} (h:a8 P G f args O R) (hq:∀v O',R v O'->R' v O'):a8 P G f args O R':=
 let ⟨K,v,O',h1,b⟩:=h;⟨K,v,O',h1,hq _ _ b⟩
section
variable {n:Nat} {t:PT V} {O:N} {Q:Ex->PT V->N->Prop}
theorem aH (h:Q .normal t O):Ev P G .skip n t O Q:=⟨1,.normal,t,O,fun k hk=>by obtain⟨j,rfl⟩:∃j,k=j+1:=⟨k-1,by omega⟩;rfl,h⟩
theorem Iy {l:Nat} (h:Q .normal t O):Ev P G (.label l) n t O Q:=⟨1,.normal,t,O,fun k hk=>by obtain⟨j,rfl⟩:∃j,k=j+1:=⟨k-1,by omega⟩;rfl,h⟩
theorem bg {id:Nat} (h:Q (.exit id) t O):Ev P G (.exit id) n t O Q:=⟨1,_,t,O,fun k hk=>by obtain⟨j,rfl⟩:∃j,k=j+1:=⟨k-1,by omega⟩;rfl,h⟩
theorem aC (h:Q .ret t O):Ev P G .ret n t O Q:=⟨1,_,t,O,fun k hk=>by obtain⟨j,rfl⟩:∃j,k=j+1:=⟨k-1,by omega⟩;rfl,h⟩
def db (P:Program) (G:Cx) (n:Nat) (b:Code) (Q:Ex->PT V->N->Prop) (e:Ex) (t:PT V) (O:N):Prop:=
 match e with
 | .normal=>Ev P G b n t O Q
 | e=>Q e t O
theorem ak {a b:Code} (h:Ev P G a n t O (db P G n b Q)):Ev P G (.seq a b) n t O Q:=by
 obtain⟨K,e,t',O',h1,u⟩:=h
 have step:∀k,K<=k->eH P G (k+1) (.seq a b) t n [] none O=yf (.ok e t' [] O') (fun t d O=>eH P G k b t n d none O):=fun k hk=>by
  show yf (eH P G k a t n [] none O) (fun t d O=>eH P G k b t n d none O)=_;rw[h1 k hk]
 cases e with
 | normal=>
  obtain⟨w,z,A,B,h3,h4⟩:=u;refine⟨max K w+1,z,A,B,fun k hk=>?_,h4⟩;obtain⟨j,rfl⟩:∃j,k=j+1:=⟨k-1,by omega⟩;rw[step j oM];exact h3 j oM
 | _=>
  refine⟨K+1,_,t',O',fun k hk=>?_,u⟩;obtain⟨j,rfl⟩:∃j,k=j+1:=⟨k-1,by omega⟩;rw[step j oM];rfl
theorem zY {x:Operand} {a b:Code} {c:Bool} (d:bp G t x=some (.bool c)) (h:Ev P G (if c then a else b) n t O Q):Ev P G (.cond x a b) n t O Q:=by
 obtain⟨K,e,t',O',h1,u⟩:=h;refine⟨K+1,e,t',O',fun k hk=>?_,u⟩;obtain⟨j,rfl⟩:∃j,k=j+1:=⟨k-1,by omega⟩;show yC (bp G t x) (eH P G j a t n [] none O) (eH P G j b t n [] none O)=_;rw[d];have:=h1 j oM;cases c<;>exact this
def iC (id:Nat) (Q:Ex->PT V->N->Prop) (e:Ex) (t:PT V) (O:N):Prop:=
 match e with
 | .exit j=>if j=id then Q .normal t O else Q (.exit j) t O
 | e=>Q e t O
theorem aM {id:Nat} {b:Code} (h:Ev P G b n t O (iC id Q)):Ev P G (.block id b) n t O Q:=by
 obtain⟨K,e,t',O',h1,d⟩:=h
 have step:∀k,K<=k->eH P G (k+1) (.block id b) t n [] none O=tI id (.ok e t' [] O'):=fun k hk=>by
  show tI id (eH P G k b t n [] none O)=_;rw[h1 k hk]
 cases e with
 | exit q=>
  by_cases hq:q=id
  ·subst hq;refine⟨K+1,.normal,t',O',fun k hk=>?_,by simpa [iC] using d⟩;obtain⟨j,rfl⟩:∃j,k=j+1:=⟨k-1,by omega⟩;rw[step j oM];show(bif Nat.beq q q then _ else _)=_
   simp_all
  refine⟨K+1,.exit q,t',O',fun k hk=>?_,by simpa [iC,hq] using d⟩;obtain⟨j,rfl⟩:∃j,k=j+1:=⟨k-1,by omega⟩;rw[step j oM];show(bif Nat.beq q id then _ else _)=_
  grind [nB]
 | _=>
  refine⟨K+1,_,t',O',fun k hk=>?_,d⟩;obtain⟨j,rfl⟩:∃j,k=j+1:=⟨k-1,by omega⟩;rw[step j oM];rfl
theorem K9 {b:Code} (I_:Nat->PT V->N->Prop) (step:∀j t O,I_ j t O->Ev P G b n t O (fun e t' O'=>match e with | .normal=>∃i,i<j/\I_ i t' O' | e=>Q e t' O')):
  ∀(j:Nat) (t:PT V) (O:N),I_ j t O->Ev P G (.loop b) n t O Q:=by
 intro j;induction j using Nat.strongRecOn with
 | _ j ih=>
  intro t O z;obtain⟨K,e,t',O',h1,w⟩:=step j t O z
  have st:∀k,K<=k->eH P G (k+1) (.loop b) t n [] none O=yf (.ok e t' [] O') (fun t d O=>eH P G k (.loop b) t n d none O):=fun k hk=>by
   show yf (eH P G k b t n [] none O) (fun t d O=>eH P G k (.loop b) t n d none O)=_;rw[h1 k hk]
  cases e with
  | normal=>
   obtain⟨i,hi,u⟩:=w;obtain⟨A,B,C,E,h3,h4⟩:=ih i hi t' O' u;refine⟨max K A+1,B,C,E,fun k hk=>?_,h4⟩;obtain⟨q,rfl⟩:∃q,k=q+1:=⟨k-1,by omega⟩;rw[st q oM];exact h3 q oM
  | _=>
   refine⟨K+1,_,t',O',fun k hk=>?_,w⟩;obtain⟨q,rfl⟩:∃q,k=q+1:=⟨k-1,by omega⟩;rw[st q oM];rfl
theorem ai {id:Nat} {ops:Array Oper} (b:mg ops.toList=false) (h:bK P G ops n ops.toList t O Q):Ev P G (.region id ops false) n t O Q:=by
 obtain⟨K,e,t',O',h1,d⟩:=h;refine⟨K+1,e,t',O',fun k hk=>?_,d⟩;obtain⟨j,rfl⟩:∃j,k=j+1:=⟨k-1,by omega⟩;show(bif mg ops.toList then .err 96 else BV [] (tX P G (eH P G j) ops n [] ops.toList t O))=_;rw[b,h1 j oM];cases e<;>rfl
theorem wq {id:Nat} {ops:Array Oper} (hf:tP P ops=true) (h:cO P G ops n (jh P ops) t O Q):Ev P G (.region id ops true) n t O Q:=by
 obtain⟨K,e,t',O',h1,b⟩:=h;refine⟨K+1,e,t',O',fun k hk=>?_,b⟩;obtain⟨j,rfl⟩:∃j,k=j+1:=⟨k-1,by omega⟩;show uC P G (eH P G j) ops n [] t O=_;unfold uC
 simp_all
theorem ah {ops:Array Oper} (h:Q .normal t O):bK P G ops n [] t O Q:=⟨0,.normal,t,O,fun _ _=>Z,h⟩
theorem Y {ops:Array Oper} {o:Oper} {l:List Oper} {v:V} {t':PT V} {O':N} (hw:bH ops t o=some true) (hv:dW P G (bp G t) O o.op= .val v O') (hp:dP t n o.dst v=some t') (h:bK P G ops n l t' O' Q):bK P G ops n (o::l) t O Q:=by
 obtain⟨K,e,b,d,h1,u⟩:=h;refine⟨K,e,b,d,fun k hk=>?_,u⟩;show jg P G (eH P G k) true ops n o t O (tX P G (eH P G k) ops n [] l)=_
 grind [jg,lE]
theorem gR {ops:Array Oper} {o:Oper} {l:List Oper} {t':PT V} {O':N} (hw:bH ops t o=some true) (hv:dW P G (bp G t) O o.op= .skip O') (hp:dP t n o.dst unit=some t') (h:bK P G ops n l t' O' Q):bK P G ops n (o::l) t O Q:=by
 obtain⟨K,e,b,d,h1,u⟩:=h;refine⟨K,e,b,d,fun k hk=>?_,u⟩;show jg P G (eH P G k) true ops n o t O (tX P G (eH P G k) ops n [] l)=_
 grind [jg,lE]
theorem ae {ops:Array Oper} {o:Oper} {l:List Oper} {t':PT V} (hw:bH ops t o=some false) (hp:dP t n o.dst unit=some t') (h:bK P G ops n l t' O Q):bK P G ops n (o::l) t O Q:=by
 obtain⟨K,e,b,d,h1,u⟩:=h;refine⟨K,e,b,d,fun k hk=>?_,u⟩;show jg P G (eH P G k) true ops n o t O (tX P G (eH P G k) ops n [] l)=_;unfold jg
 simp_all
theorem DO {ops:Array Oper} {o:Oper} {l:List Oper} {f:Nat} {args:List V} {σ₁:N} (hw:bH ops t o=some true) (hv:dW P G (bp G t) O o.op= .enter f args σ₁)
  (h:a8 P G f args σ₁ fun v O'=>∃t',dP t n o.dst v=some t'/\bK P G ops n l t' O' Q):bK P G ops n (o::l) t O Q:=by
 obtain⟨K,v,O',h1,t',hp,b,e,d,u,h3,h4⟩:=h;refine⟨max K b,e,d,u,fun k hk=>?_,h4⟩;show jg P G (eH P G k) true ops n o t O (tX P G (eH P G k) ops n [] l)=_
 grind [jg,lE]
theorem aV {ops:Array Oper} (h:Q .normal t O):cO P G ops n [] t O Q:=⟨0,.normal,t,O,fun _ _=>Z,h⟩
theorem aj {ops:Array Oper} {i:Nat} {o:Oper} {l:List (Nat×List Nat)} {v:V} {t':PT V} {O':N} (hi:ops[i]?=some o) (hw:bH ops t o=some true) (hv:dW P G (bp G t) O o.op= .val v O') (hp:dP t n o.dst v=some t') (h:cO P G ops n l t' O' Q):cO P G ops n ((i,[])::l) t O Q:=by
 obtain⟨K,e,b,d,h1,u⟩:=h;refine⟨K,e,b,d,fun k hk=>?_,u⟩
 show(match ops[i]? with
  | some o=>jg P G (eH P G k) false ops n o t O (fun t' O'=>bif du P G ops t' O' [] then jP P G (eH P G k) ops n [] l t' O' else .err 86)
  | none=>.err 87)=_
 rw[hi];unfold jg;dsimp only;rw[hw];dsimp only;rw[hv];dsimp only[lE];rw[hp];exact h1 k hk
theorem au {ops:Array Oper} {i:Nat} {o:Oper} {l:List (Nat×List Nat)} {t':PT V} (hi:ops[i]?=some o) (hw:bH ops t o=some false) (hp:dP t n o.dst unit=some t') (h:cO P G ops n l t' O Q):cO P G ops n ((i,[])::l) t O Q:=by
 obtain⟨K,e,b,d,h1,u⟩:=h;refine⟨K,e,b,d,fun k hk=>?_,u⟩
 show(match ops[i]? with
  | some o=>jg P G (eH P G k) false ops n o t O (fun t' O'=>bif du P G ops t' O' [] then jP P G (eH P G k) ops n [] l t' O' else .err 86)
  | none=>.err 87)=_
 rw[hi];unfold jg;dsimp only;rw[hw];dsimp only;rw[hp];exact h1 k hk
theorem BQ {ops:Array Oper} {i:Nat} {o:Oper} {rc:List Nat} {l:List (Nat×List Nat)} {f:Nat} {args:List V} {σ₁:N} (hi:ops[i]?=some o) (hw:bH ops t o=some true) (hv:dW P G (bp G t) O o.op= .enter f args σ₁)
  (h:a8 P G f args σ₁ fun v O'=>∃t',dP t n o.dst v=some t'/\du P G ops t' O' rc=true/\cO P G ops n l t' O' Q):cO P G ops n ((i,rc)::l) t O Q:=by
 obtain⟨K,v,O',h1,t',hp,hs,b,e,d,u,h3,h4⟩:=h;refine⟨max K b,e,d,u,fun k hk=>?_,h4⟩
 show(match ops[i]? with
  | some o=>jg P G (eH P G k) false ops n o t O (fun t' O'=>bif du P G ops t' O' rc then jP P G (eH P G k) ops n [] l t' O' else .err 86)
  | none=>.err 87)=_
 grind [jg,lE]
end
theorem K8 {f:Nat} {fn:Func} {c:Code} {args:List V} {O:N} {R:V->N->Prop} {t:PT V} (d:G.HS f args O=none) (u:G.HU f args=none) (b:G.stop f args O=none) (w:G.fk f=false)
  (hf:P.funcs[f]?=some fn) (hb:fn.body=some c) (z:ra fn.ntmps args=some t)
  (h:Ev P G c fn.ntmps t O fun e t' O'=>(e= .normal∨e= .ret)/\∃v,eX P fn t' O'=some v/\R v O'):a8 P G f args O R:=by
 obtain⟨K,e,t',O',h1,he,v,h2,h3⟩:=h;refine⟨K,v,O',fun k hk=>?_,h3⟩;unfold lY;rw[d];dsimp only;rw[u];dsimp only;rw[b];dsimp only;rw[w];simp only[cond_false];unfold kM;rw[hf];dsimp only;rw[hb,z];dsimp only;rw[h1 k hk];rcases he with rfl | rfl<;>
 ·dsimp only;unfold xZ;rw[show wO P G (eH P G k) [] .ret O'=some (.ret,O') from Z]
  simp_all
theorem Ix {f:Nat} {args:List V} {O:N} {R:V->N->Prop} {v:V} (aa:G.HS f args O=none) (ab:G.HU f args=some v) (h1:eL args=true) (h2:mS v=true) (h3:ng G.gl O G.laid=true) (h:R v O):a8 P G f args O R:=by
 refine⟨0,v,O,fun k _=>?_,h⟩
 grind [lY]
end
def qe (P:Program):List Field->Nat->Option Nat
  | [],off=>some off
  | f::r,off=>if f.offset=off then qe P r (off+P.cellsOf f.type) else none
def eA {H_:Type} (P:Program) (O:N):Nat->TypeId->DataW H_->List V->Prop
  | 0,_,_,_=>False
  | fuel+1,t,d,vs=>
    match P.underlying t,d with
    | some .bool,.lit (.bool b)=>vs= [.bool b]
    | some (.int k),.lit (.int k' n)=>k'=k/\(Lit.int k n).wf=true/\vs= [.int k n]
    | some .string,.lit (.string s)=>s.length<=maxLen/\vs= [.str<|s.map UInt8.toNat]
    | some (.slice _),.nil=>vs= [.av]
    | some (.slice e),.slice elems spare=>1<=P.cellsOf e->∃(b:Nat) (c:ql) (cells:List V) (e':Nat),vs= [.slice b 0 elems.length c]/\elems.length<=maxLen/\O.m.get b=some (.row cells e' true)/\
        (c= .known (elems.length+spare.length)∨c= .upto (P.cellsOf e))/\cells.length=elems.length*P.cellsOf e/\
        ∀(i:Nat) (x:DataW H_),elems[i]?=some x->eA P O fuel e x ((cells.drop (i*P.cellsOf e)).take<|P.cellsOf e)
    | some (.struct fs),.agg parts=>qe P fs.toList 0=some (P.cellsOf t)->parts.length=fs.size/\vs.length=P.cellsOf t/\
        ∀(i:Nat) (f:Field) (x:DataW H_),fs[i]?=some f->parts[i]?=some x->eA P O fuel f.type x ((vs.drop f.offset).take<|P.cellsOf f.type)
    | some (.array n e),.agg parts=>P.cellsOf t=n*P.cellsOf e->parts.length=n/\vs.length=P.cellsOf t/\
        ∀(i:Nat) (x:DataW H_),parts[i]?=some x->eA P O fuel e x ((vs.drop (i*P.cellsOf e)).take<|P.cellsOf e)
    | _,_=>True
theorem eA.mono {H_:Type} {P:Program} {O O':N} (he:∀(b:Pos) (o:cN),O.m.get b=some o->O'.m.get b=some o):∀(fuel:Nat) (t:TypeId) (d:DataW H_) (vs:List V),eA P O fuel t d vs->eA P O' fuel t d vs
  | 0,_,_,_,h=>h
  | fuel+1,t,d,vs,h=>by
    unfold eA at h⊢;split at h
    · exact h
    · exact h
    · exact h
    · exact h
    · intro h1
      obtain⟨b,c,cells,e',u,k2,z,A,B,C⟩:=h h1;exact⟨b,c,cells,e',u,k2,he _ _ z,A,B,fun i x hx=>eA.mono he fuel _ _ _ (C i x hx)⟩
    · intro h1
      obtain⟨u,k2,z⟩:=h h1;exact⟨u,k2,fun i f x hf hx=>eA.mono he fuel _ _ _ (z i f x hf hx)⟩
    · intro h1
      obtain⟨u,k2,z⟩:=h h1;exact⟨u,k2,fun i x hx=>eA.mono he fuel _ _ _ (z i x hx)⟩
    · trivial
theorem dA.flatten {I:dg}:∀{vss:List (List V)} {css:List (List Value)},vss.length=css.length->(∀(i:Nat) (vs:List V) (cs:List Value),vss[i]?=some vs->css[i]?=some cs->dA I vs cs)->dA I vss.flatten css.flatten
  | [],[],_,_=>dA.nil
  | [],_::_,h,_=>by simp at h
  | _::_,[],h,_=>by simp at h
  | vs::vss,cs::css,h,hh=>by
    rw[List.flatten_cons,List.flatten_cons];exact(hh 0 vs cs Z Z).append (dA.flatten (by simpa using h) fun i a b d hb=>hh (i+1) a b (by simpa using d) (by simpa using hb))
theorem nb {α:Type} {m:Nat}:∀{l:List (List α)} {i:Nat} {x:List α},(∀y∈l,y.length=m)->l[i]?=some x->(l.flatten.drop (i*m)).take m=x
  | [],i,x,_,h=>by simp at h
  | y::l,0,x,hm,h=>by
    simp at h;subst h;have hy:=hm y (by simp);simp[<-hy]
  | y::l,i+1,x,hm,h=>by
    have hy:=hm y (by simp);simp only[List.getElem?_cons_succ] at h;rw[List.flatten_cons,show(i+1)*m=y.length+i*m by rw[hy,Nat.succ_mul,Nat.add_comm],List.drop_append,List.drop_eq_nil_of_le oM,List.nil_append,Nat.add_sub_cancel_left];exact nb (fun z b=>hm z (by simp[b])) h
theorem pF {α:Type} {m:Nat}:∀{l:List (List α)},(∀y∈l,y.length=m)->l.flatten.length=l.length*m
  | [],_=>by simp
  | y::l,hm=>by
    rw[List.flatten_cons,lA_,hm y (by simp),pF fun z b=>hm z (by simp[b]),List.length_cons,Nat.succ_mul,Nat.add_comm]
theorem nq {α:Type} {P:Program}:∀{fs:List Field} {off fin:Nat} {cs:List α},qe P fs off=some fin->fin<=cs.length->(fs.map fun f=>(cs.drop f.offset).take (P.cellsOf f.type)).flatten=(cs.drop off).take (fin-off)/\off<=fin
  | [],off,fin,cs,h,_=>by simp only[qe,oJ_] at h;subst h;simp
  | f::fs,off,fin,cs,h,hl=>by
    simp only[qe] at h;split at h
    · rename_i b
      obtain⟨h1,h2⟩:=nq h hl;refine⟨?_,by omega⟩;rw[List.map_cons,List.flatten_cons,h1,b];rw[show fin-off=P.cellsOf f.type+(fin-(off+P.cellsOf f.type)) by omega,List.take_add,List.drop_drop]
    · cases h
theorem uZ {α:Type} {P:Program}:∀{fs:List Field} {vss:List (List α)} {off fin:Nat},qe P fs off=some fin->(∀(i:Nat) (f:Field) (vs:List α),fs[i]?=some f->vss[i]?=some vs->vs.length=P.cellsOf f.type)->vss.length=fs.length->
    ∀{i:Nat} {f:Field} {vs:List α},fs[i]?=some f->vss[i]?=some vs->off<=f.offset/\(vss.flatten.drop (f.offset-off)).take (P.cellsOf f.type)=vs
  | [],vss,off,fin,h,hl,d,i,f,vs,hf,hv=>by simp at hf
  | g::fs,[],off,fin,h,hl,d,i,f,vs,hf,hv=>by simp at hv
  | g::fs,w::vss,off,fin,h,hl,d,i,f,vs,hf,hv=>by
    simp only[qe] at h;split at h
    · rename_i ho
      have hw:=hl 0 g w Z Z;cases i with
      | zero=>
        simp_all
      | succ i=>
        simp only[List.getElem?_cons_succ] at hf hv;obtain⟨h1,h2⟩:=uZ h (fun i f vs a b=>hl (i+1) f vs (by simpa using a) (by simpa using b)) (by simpa using d) hf hv
        grind [List.drop_append,List.drop_eq_nil_of_le]
    · cases h
def kH (O:N):Prop:=∀b o,O.m.get b=some o->o.ro=true
structure Db (I:dg) (O:N) (I':dg) (O':N):Prop where
  le:I.le I'
  get:∀(b:Pos) (o:cN),O.m.get b=some o->O'.m.get b=some o
theorem Db.refl (I:dg) (O:N):Db I O I O:=⟨dg.le_refl I,fun _ _ h=>h⟩
theorem Db.trans {I ρ₁ ρ₂:dg} {O σ₁ σ₂:N} (h:Db I O ρ₁ σ₁) (h':Db ρ₁ σ₁ ρ₂ σ₂):Db I O ρ₂ σ₂:=⟨dg.le_trans h.le h'.le,fun b o hb=>h'.get b o (h.get b o hb)⟩
theorem Inv.Mr {I:dg} {O:N} {w:World} (hi:Inv I O w) (K:kH O) {l:Loc} {o:cN} {x:Obj} (hx:w.heap[l.dN]?=some x) (L:gK I l o x) (aa:o.ro=true):
    Inv (I.with O.next l) (O.alloc o) w/\kH (O.alloc o)/\Db I O (I.with O.next l) (O.alloc o):=by
  have hle:=hi.vN l;have F:l.dN<w.heap.size:=(aS_.1 hx).1;have A:∀b l',b≠O.next->(I.with O.next l) b=some l'->I b=some l':=fun b l' hb h=>by rwa[dg.dV I l hb] at h
  have z:∀b,b≠O.next->(O.alloc o).m.get b=O.m.get b:=fun b hb=>PT.dB _ _ _ _ hb
  have B:(O.alloc o).m.get O.next=some o:=PT.dE _ _ _
  have u:kH (O.alloc o):=fun b q hb=>by
    by_cases e:b=O.next
    · simp_all
    · rw[z b e] at hb;exact K b q hb
  refine⟨⟨⟨fun b hb=>?_,fun b l' hb=>?_,fun b o' l' hb C=>?_,fun b b' o₁ o₂ l₁ l₂ h1 E _ _ _ _=>⟨u b o₁ h1,u b' o₂ E⟩⟩,hi.rB.size,hi.rB.same,fun r _ ⟨b,o,l,h1,E,_,_⟩=>by rw[u b o h1] at E;cases E⟩,u,hle,fun b q hb=>?_⟩
  · have ab:O.next.num+1<=b.num:=by simpa [N.alloc,Pos.iu] using hb
    have d:b≠O.next:=fun e=>by subst e;omega
    rw[dg.dV I l d,z b d];exact hi.fresh b oM
  · by_cases d:b=O.next
    · subst d;rw[dg.cV] at hb;cases hb;exact F
    · exact hi.dN b l'<|A b l' d hb
  · by_cases d:b=O.next
    · subst d
      rw[dg.cV] at C;rw[B] at hb;cases hb;cases C;exact⟨x,hx,L.mono hle⟩
    · rw[z b d] at hb
      obtain⟨y,hy,G⟩:=hi.obj b o' l' hb (A b l' d C);exact⟨y,hy,G.mono hle⟩
  · have d:b≠O.next:=fun e=>by subst e;rw[(hi.fresh _<|nR_ _).2] at hb;cases hb
    simp_all
section
variable {H_:Type} {enc:TypeId×Value->H_} {P:Program} {w:World}
def HW (enc:TypeId×Value->H_) (P:Program) (w:World) (fuel:Nat) (t:TypeId) (cs:List Value) (d:DataW H_):Prop:=
  ∀(I:dg) (O:N),Inv I O w->kH O->∃(I':dg) (O':N) (vs:List V),Inv I' O' w/\kH O'/\Db I O I' O'/\eA P O' fuel t d vs/\dA I' vs cs
theorem Ow {I:dg}:∀(cs:List Value),dA I (cs.map fun _=>V.any) cs
  | []=>dA.nil
  | _::cs=>dA.cons (by simp only[VR]) (Ow cs)
theorem qD {fuel:Nat} (ih:∀t cs d p,DataW.trod enc P w 0 (fun _=>true) true fuel t cs=some (d,p)->HW enc P w fuel t cs d):
    ∀(l:List (TypeId×List Value)) (xs:List (DataW H_×List MemPlace)),(l.mapM fun q=>DataW.trod enc P w 0 (fun _=>true) true fuel q.1 q.2)=some xs->∀(I:dg) (O:N),Inv I O w->kH O->
      ∃(I':dg) (O':N) (vss:List (List V)),Inv I' O' w/\kH O'/\Db I O I' O'/\vss.length=l.length/\xs.length=l.length/\∀(i:Nat) (q:TypeId×List Value) (x:DataW H_×List MemPlace) (vs:List V),l[i]?=some q->xs[i]?=some x->vss[i]?=some vs->eA P O' fuel q.1 x.1 vs/\dA I' vs q.2
  | [],xs,h,I,O,hi,b=>by
    simp at h;subst h;exact⟨I,O,[],hi,b,Db.refl _ _,Z,Z,fun i q x vs hq=>by simp at hq⟩
  | q::l,xs,h,I,O,hi,b=>by
    simp only[List.mapM_cons,Option.bind_eq_bind,Option.bind_eq_some_iff,Option.pure_def,oJ_] at h;obtain⟨⟨d,p⟩,h1,r,u,rfl⟩:=h;obtain⟨ρ₁,σ₁,vs,z,A,l1,B,C⟩:=ih _ _ _ _ h1 I O hi b;obtain⟨ρ₂,σ₂,vss,E,F,l2,n1,G,hh⟩:=qD ih l r u ρ₁ σ₁ z A;refine⟨ρ₂,σ₂,vs::vss,E,F,l1.trans l2,by simp[n1],by simp[G],fun i q' x vs' hq hx hv=>?_⟩;cases i with
    | zero=>
      simp at hq hx hv;subst hq;subst hx;subst hv;exact⟨eA.mono l2.get _ _ _ _ B,dA.mono l2.le _ _ C⟩
    | succ i=>grind
theorem mm {α β:Type} {f:α->Option β}:∀{l:List α} {ys:List β},l.mapM f=some ys->ys.length=l.length/\∀(i:Nat) (y:β),ys[i]?=some y->∃x,l[i]?=some x/\f x=some y
  | [],ys,h=>by simp_all
  | x::l,ys,h=>by
    simp only[List.mapM_cons,Option.bind_eq_bind,Option.bind_eq_some_iff,Option.pure_def,oJ_] at h;obtain⟨y,h1,r,b,rfl⟩:=h;obtain⟨k1,k2⟩:=mm b
    grind
theorem tU {α β γ:Type} {f:α->Option β} {g:β->Option γ}:∀{l:List α} {xs:List γ},(l.mapM fun a=>(f a).bind g)=some xs->∃ys,l.mapM f=some ys/\ys.mapM g=some xs
  | [],xs,h=>by simp_all
  | a::l,xs,h=>by
    simp only[List.mapM_cons,Option.bind_eq_bind,Option.bind_eq_some_iff,Option.pure_def,oJ_] at h;obtain⟨x,⟨b,h1,h2⟩,r,h3,rfl⟩:=h;obtain⟨ys,k1,k2⟩:=tU h3
    simp_all
theorem mapM_map {α β γ:Type} {f:α->β} {g:β->Option γ}:∀(l:List α),(l.map f).mapM g=l.mapM fun a=>g (f a)
  | []=>rfl
  | a::l=>by simp only[List.map_cons,List.mapM_cons,mapM_map l]
theorem chunks_flatten {α:Type} {m:Nat} (L:List α):∀(n:Nat),((List.range n).map fun k=>(L.drop (k*m)).take m).flatten=L.take (n*m)
  | 0=>by simp
  | n+1=>by
    rw[List.range_succ,List.map_append,List.flatten_append,chunks_flatten L n];simp only[List.map_cons,List.map_nil,List.flatten_cons,List.flatten_nil,List.append_nil];rw[Nat.succ_mul,List.take_add]
theorem v7 {a:Addr} {n:Nat} {cs:List Value} (h:w.cells? 0 a n=some cs) (hn:1<=n):∃(c:Array Value) (e:TypeId) (fr:Nat×Nat),w.heap[a.block]?=some (Obj.cells c e fr)/\a.spot=none/\a.off+n<=c.size/\cs=(c.toList.drop a.off).take n:=by
  unfold World.cells? at h;rw[if_pos<|Nat.zero_le _] at h;obtain⟨A,k2⟩:=mm h;have A:cs.length=n:=by simpa using A
  have h0:∃(c:Array Value) (e:TypeId) (fr:Nat×Nat),w.heap[a.block]?=some (Obj.cells c e fr)/\a.spot=none:=by
    have b:0<cs.length:=by omega
    obtain⟨x,hx,u⟩:=k2 0 cs[0] (gC b)
    have:x=0:=by
      grind
    subst this;have B:a.add 0=a:=by simp[Addr.add]
    rw[B] at u;unfold World.cell? at u;split at u
    · simp_all
    · cases u
  obtain⟨c,e,fr,hh,C⟩:=h0
  have d:∀i y,cs[i]?=some y->c[a.off+i]?=some y:=fun i y hy=>by
    grind [Addr.add_eq,cell?_of_heap]
  have z:a.off+n<=c.size:=by
    have b:n-1<cs.length:=by omega
    have:=d (n-1) cs[n-1] (gC b)
    grind
  refine⟨c,e,fr,hh,C,z,?_⟩;apply List.ext_getElem?
  grind
theorem CW {P:Program}:∀{fs:List Field} {off fin:Nat},qe P fs off=some fin->∀f∈fs,f.offset+P.cellsOf f.type<=fin
  | [],off,fin,h,f,hf=>by cases hf
  | g::fs,off,fin,h,f,hf=>by
    simp only[qe] at h;split at h
    · rename_i ho
      rcases mQ_.1 hf with rfl | hf
      · have:=(nq (P:=P) (cs:=List.replicate fin ()) h (by simp)).2
        omega
      · exact CW h f hf
    · cases h
theorem I3 (hw:∃(r:Nat) (c:Array Value) (e:TypeId) (fr:Nat×Nat),w.heap[r]?=some (Obj.cells c e fr)) {fuel:Nat} (ih:∀t cs d p,DataW.trod enc P w 0 (fun _=>true) true fuel t cs=some (d,p)->HW enc P w fuel t cs d) {t e:TypeId} {a:Addr} {len cap:Nat} {d:DataW H_} {p:List MemPlace} (hu:P.underlying t=some (.slice e))
    (h:(if 0<=a.block/\len<=cap/\cap<=maxLen then
        ((List.range len).mapM fun i=>(w.cells? 0 (a.add (i*P.cellsOf e))<|P.cellsOf e).bind (DataW.trod enc P w 0 (fun _=>true) true fuel e)).bind fun elems=>
          (if(fun _=>true) a.block=true then(List.range (cap-len)).mapM fun j=>(w.cells? 0 (a.add ((len+j)*P.cellsOf e))<|P.cellsOf e).bind (DataW.trod enc P w 0 (fun _=>true) true fuel e) else some []).map fun rest=>
            (DataW.slice (elems.map (·.1))<|rest.map (·.1),MemPlace.row a ((elems.length+rest.length)*P.cellsOf e)++(elems++rest).flatMap (·.2))
      else none)=some (d,p)) {I:dg} {O:N} (hi:Inv I O w) (hr:kH O):
    ∃(I':dg) (O':N) (vs:List V),Inv I' O' w/\kH O'/\Db I O I' O'/\eA P O' (fuel+1) t d vs/\dA I' vs [Value.slice (some a) len cap]:=by
  split at h
  · rename_i hc
    obtain⟨_,a2,a3⟩:=hc;obtain⟨elems,hE,h⟩:=Option.bind_eq_some_iff.1 h;obtain⟨rest,hR,h⟩:=oM_.1 h;rw[if_pos Z] at hR;have hd:d= .slice (elems.map (·.1)) (rest.map (·.1)):=by have:=congrArg Prod.fst h;simpa using this.symm
    subst hd;have u:elems.length=len:=by have:=(mm hE).1;simpa using this
    have ac:rest.length=cap-len:=by have:=(mm hR).1;simpa using this
    by_cases K:1<=P.cellsOf e
    · obtain⟨css,am,hex⟩:=tU hE
      obtain⟨kcs,G⟩:=mm am;have kcs:css.length=len:=by simpa using kcs
      have R:∀k,(a.add k).block=a.block/\(a.add k).off=a.off+k:=fun k=>by
        unfold Addr.add;split
        · rename_i h0;subst h0;exact⟨Z,Z⟩
        · exact⟨Z,Z⟩
      have B:a.add 0=a:=by simp[Addr.add]
      by_cases h0:len=0/\cap=0
      · obtain⟨rfl,rfl⟩:=h0
        obtain⟨r,c,e',fr,hh⟩:=hw;have C:gK I ⟨r,0,c.size⟩ (.row [] e' true) (.cells c e' fr):=⟨c,fr,Z,by simp,by simp,fun i v hv=>by simp at hv,fun h=>by cases h⟩;obtain⟨i1,r1,l1⟩:=hi.Mr hr hh C Z;refine⟨_,_,[.slice O.next 0 0 (.upto<|P.cellsOf e)],i1,r1,l1,?_,dA.cons ?_ dA.nil⟩
        · unfold eA
          rw[hu];dsimp only;intro _;have ap:elems= []:=eN_ u;subst ap;exact⟨O.next,_,[],e',Z,by simp,PT.dE _ _ _,.inr Z,by simp,fun i x hx=>by simp at hx⟩
        · simp only[VR]
          refine⟨_,dg.cV _ _ _,.inr ?_⟩;simp
      · have S:∃(c:Array Value) (e':TypeId) (fr:Nat×Nat),w.heap[a.block]?=some (Obj.cells c e' fr)/\a.spot=none/\a.off<=c.size:=by
          have go:∀cs:List Value,w.cells? 0 a (P.cellsOf e)=some cs->∃(c:Array Value) (e':TypeId) (fr:Nat×Nat),w.heap[a.block]?=some (Obj.cells c e' fr)/\a.spot=none/\a.off<=c.size:=fun cs hk=>by
            obtain⟨c,e',fr,h1,h2,h3,_⟩:=v7 hk K;exact⟨c,e',fr,h1,h2,by omega⟩
          by_cases hl:len=0
          · subst hl
            obtain⟨dss,ar,_⟩:=tU hR;obtain⟨k1,k2⟩:=mm ar;have k1:dss.length=cap-0:=by simpa using k1
            have b:0<dss.length:=by omega
            obtain⟨x,E,hx⟩:=k2 0 dss[0] (gC b);have:x=0:=by rw[List.getElem?_range oM] at E;exact(Option.some.inj E).symm
            subst this;rw[nA_,Nat.zero_mul,B] at hx;exact go _ hx
          · have b:0<css.length:=by omega
            obtain⟨x,E,hx⟩:=G 0 css[0] (gC b);have:x=0:=by rw[List.getElem?_range oM] at E;exact(Option.some.inj E).symm
            subst this;rw[Nat.zero_mul,B] at hx;exact go _ hx
        obtain⟨c,e',fr,hh,F,aq⟩:=S
        have L:∀(i:Nat) (y:List Value),css[i]?=some y->a.off+(i+1)*P.cellsOf e<=c.size/\y=((c.toList.drop a.off).drop (i*P.cellsOf e)).take (P.cellsOf e):=fun i y hy=>by
          obtain⟨x,hx,aE⟩:=G i y hy;have A:i<len:=by rw[<-kcs];exact(gA.1 hy).1
          have:x=i:=by rw[List.getElem?_range A] at hx;exact(Option.some.inj hx).symm
          subst this;obtain⟨c2,e2,a4,h1,h2,h3,h4⟩:=v7 aE K;obtain⟨q1,q3⟩:=R (x*P.cellsOf e);rw[q1,hh] at h1;cases h1;rw[q3] at h3 h4;exact⟨by rw[Nat.succ_mul];omega,by rw[h4,List.drop_drop]⟩
        have a0:a.off+len*P.cellsOf e<=c.size:=by
          by_cases hl:len=0
          · subst hl;omega
          · have b:len-1<css.length:=by omega
            have:=(L (len-1) css[len-1]<|gC b).1;rwa[show len-1+1=len by omega] at this
        have T:∀(i:Nat) (y:List Value),css[i]?=some y->y.length=P.cellsOf e:=fun i y hy=>by
          obtain⟨k1,k2⟩:=L i y hy;rw[k2,lT_,lD_,lD_,Array.length_toList];rw[Nat.succ_mul] at k1;omega
        have M:css=(List.range len).map fun k=>((c.toList.drop a.off).drop (k*P.cellsOf e)).take (P.cellsOf e):=by
          apply List.ext_getElem?;intro i;rw[gM_]
          by_cases A:i<len
          · rw[List.getElem?_range A]
            have b:i<css.length:=by omega
            rw[gC b];exact congrArg some (L i css[i]<|gC b).2
          · rw[gN_ oM,gN_ (by simp;omega)];rfl
        obtain⟨ρ₁,σ₁,vss,i1,r1,l1,n1,n2,Q⟩:=qD ih (css.map fun cs=>(e,cs)) elems (by rw[mapM_map];exact hex) I O hi hr;have n1:vss.length=css.length:=by simpa using n1
        have hV:dA ρ₁ vss.flatten css.flatten:=dA.flatten n1 fun i vs cs hv W=>by
          have b:i<elems.length:=by rw[u,<-kcs];exact(gA.1 W).1
          exact(Q i (e,cs) elems[i] vs (by rw[gM_,W];rfl) (gC b) hv).2
        have X:∀vs∈vss,vs.length=P.cellsOf e:=fun vs hv=>by
          obtain⟨i,A,rfl⟩:=List.getElem_of_mem hv;have b:i<css.length:=by omega
          have z:i<elems.length:=by omega
          have:=(Q i (e,css[i]) elems[i] vss[i] (by rw[gM_,gC b];rfl) (gC z)<|gC A).2.length;rw[<-this];exact T i _<|gC b
        have aa:vss.flatten.length=len*P.cellsOf e:=by rw[pF X,n1,kcs]
        rw[M,chunks_flatten] at hV
        have C:gK ρ₁ ⟨a.block,a.off,c.size-a.off⟩ (.row vss.flatten e' true) (.cells c e' fr):=by
          refine⟨c,fr,Z,by show c.size=a.off+(c.size-a.off);omega,by rw[aa];show _<=c.size-a.off;omega,fun i v hv=>?_,fun h=>by cases h⟩;obtain⟨y,hy,a1⟩:=hV.get hv;rw[List.getElem?_take] at hy;split at hy
          · rw[List.getElem?_drop,aT_] at hy
            exact⟨y,hy,a1⟩
          · cases hy
        obtain⟨i2,r2,l2⟩:=i1.Mr r1 hh C Z;refine⟨_,_,[.slice σ₁.next 0 len (.known cap)],i2,r2,l1.trans l2,?_,dA.cons ?_ dA.nil⟩
        · unfold eA
          rw[hu];dsimp only;intro _;refine⟨σ₁.next,_,vss.flatten,e',by rw[lM_,u],by rw[lM_,u];omega,PT.dE _ _ _,.inl (by rw[lM_,lM_,u,ac];congr 1;omega),by rw[aa,lM_,u],fun i x hx=>?_⟩;rw[gM_] at hx;cases hy:elems[i]? with
          | none=>rw[hy] at hx;cases hx
          | some y=>
            rw[hy] at hx;cases hx;have A:i<len:=by rw[<-u];exact(gA.1 hy).1
            have b:i<css.length:=by omega
            have z:i<vss.length:=by omega
            rw[nb X<|gC z];exact eA.mono l2.get _ _ _ _ (Q i (e,css[i]) y vss[i] (by rw[gM_,gC b];rfl) hy<|gC z).1
        · simp only[VR]
          refine⟨_,dg.cV _ _ _,?_⟩;obtain⟨ab,ao,as⟩:=a;dsimp only at F⊢;subst F;rfl
    · refine⟨I,O,[.any],hi,hr,Db.refl _ _,?_,dA.cons (by simp only[VR]) dA.nil⟩
      unfold eA;rw[hu];exact fun h'=>absurd h' K
  · cases h
theorem lay (hw:∃(r:Nat) (c:Array Value) (e:TypeId) (fr:Nat×Nat),w.heap[r]?=some (Obj.cells c e fr)):∀(fuel:Nat) (t:TypeId) (cs:List Value) (d:DataW H_) (p:List MemPlace),DataW.trod enc P w 0 (fun _=>true) true fuel t cs=some (d,p)->HW enc P w fuel t cs d
  | 0,t,cs,d,p,h=>by simp[DataW.trod] at h
  | fuel+1,t,cs,d,p,h=>by
    intro I O hi Q;have ih:=lay hw fuel
    have other:(∀vs:List V,eA P O (fuel+1) t d vs)->∃(I':dg) (O':N) (vs:List V),Inv I' O' w/\kH O'/\Db I O I' O'/\eA P O' (fuel+1) t d vs/\dA I' vs cs:=fun G=>
      ⟨I,O,_,hi,Q,Db.refl _ _,G _,Ow cs⟩
    have one:∀{v:V} {x:Value},cs= [x]->(∀I:dg,VR I v x)->eA P O (fuel+1) t d [v]->∃(I':dg) (O':N) (vs:List V),Inv I' O' w/\kH O'/\Db I O I' O'/\eA P O' (fuel+1) t d vs/\dA I' vs cs:=fun {v x} C hv G=>by
      subst C;exact⟨I,O,[v],hi,Q,Db.refl _ _,G,dA.cons (hv I) dA.nil⟩
    cases hu:P.underlying t with
    | none=>exact other fun vs=>by unfold eA;rw[hu];trivial
    | some u=>
      unfold DataW.trod at h;rw[hu] at h;cases u with
      | bool=>
        split at h<;>first | (rename_i he;cases he;done) | skip
        all_goals first
          | (rename_i b he
             cases h;exact one (v:=.bool b) Z (fun I=>by simp only[VR]) (by unfold eA;rw[hu]))
          | cases h
      | int k=>
        split at h<;>first | (rename_i he;cases he;done) | skip
        all_goals first
          | (rename_i S k2 n he
             cases he;split at h
             · rename_i hk
               obtain⟨T,W⟩:=hk;subst T;cases h;exact one (v:=.int k2 n) Z (fun I=>by simp only[VR]) (by unfold eA;rw[hu];exact⟨Z,W,Z⟩)
             · cases h)
          | cases h
      | string=>
        split at h<;>first | (rename_i he;cases he;done) | skip
        all_goals first
          | (rename_i s he
             split at h
             · rename_i hk
               cases h;exact one (v:=.str<|s.data.toList.map UInt8.toNat) Z (fun I=>by simp only[VR];exact⟨s,Z,Z⟩) (by unfold eA;rw[hu];exact⟨by simpa using hk,Z⟩)
             · cases h)
          | cases h
      | struct fs=>
        dsimp only at h;split at h
        · rename_i hlen
          obtain⟨xs,K,hx⟩:=oM_.1 h;have G:d= .agg (xs.map (·.1)):=by have:=congrArg Prod.fst hx;simpa using this.symm
          subst G
          by_cases E:qe P fs.toList 0=some (P.cellsOf t)
          · obtain⟨ρ₁,σ₁,vss,X,r1,l1,n1,F,hh⟩:=qD ih (fs.toList.map fun f=>(f.type,(cs.drop f.offset).take<|P.cellsOf f.type)) xs (by rw[mapM_map];exact K) I O hi Q
            have hflat:=(nq (cs:=cs) E oM).1;have hle:=CW E;have n1:vss.length=fs.toList.length:=by simpa using n1
            have F:xs.length=fs.toList.length:=by simpa using F
            have B:∀(i:Nat) (f:Field) (vs:List V),fs.toList[i]?=some f->vss[i]?=some vs->∃x,xs[i]?=some x/\eA P σ₁ fuel f.type x.1 vs/\dA ρ₁ vs ((cs.drop f.offset).take<|P.cellsOf f.type):=fun i f vs hf hv=>by
              have z:i<xs.length:=by rw[F];exact(gA.1 hf).1
              obtain⟨S,k2⟩:=hh i (f.type,(cs.drop f.offset).take<|P.cellsOf f.type) xs[i] vs (by rw[gM_,hf];rfl) (gC z) hv;exact⟨xs[i],gC z,S,k2⟩
            have L:∀(i:Nat) (f:Field) (vs:List V),fs.toList[i]?=some f->vss[i]?=some vs->vs.length=P.cellsOf f.type:=fun i f vs hf hv=>by
              obtain⟨x,_,_,k⟩:=B i f vs hf hv;have h1:=k.length;have h2:=hle f (gB_ hf);rw[lT_,lD_] at h1;omega
            have R:dA ρ₁ vss.flatten cs:=by
              have:=dA.flatten (I:=ρ₁) (vss:=vss) (css:=fs.toList.map fun f=>(cs.drop f.offset).take (P.cellsOf f.type)) (by simpa using n1) (fun i vs c hv C=>by
                rw[gM_] at C;cases hf:fs.toList[i]? with
                | none=>rw[hf] at C;cases C
                | some f=>
                  rw[hf] at C;cases C;obtain⟨x,_,_,k⟩:=B i f vs hf hv;exact k)
              rw[hflat,List.drop_zero,Nat.sub_zero,<-hlen,List.take_length] at this;exact this
            refine⟨ρ₁,σ₁,vss.flatten,X,r1,l1,?_,R⟩;unfold eA;rw[hu];dsimp only;intro _;refine⟨by simpa using F,by rw[<-hlen];exact R.length.symm,fun i f x hf hx=>?_⟩;have M:fs.toList[i]?=some f:=by rw[aT_];exact hf
            have z:i<vss.length:=by rw[n1];exact(gA.1 M).1
            obtain⟨_,hp⟩:=uZ E L n1 M (gC z);obtain⟨y,hy,k,_⟩:=B i f vss[i] M (gC z);rw[gM_,hy] at hx;cases hx;rw[Nat.sub_zero] at hp;rw[hp];exact k
          · exact other fun vs=>by unfold eA;rw[hu];exact fun h'=>absurd h' E
        · cases h
      | array m e=>
        dsimp only at h;split at h
        · rename_i hlen
          obtain⟨xs,K,hx⟩:=oM_.1 h;have G:d= .agg (xs.map (·.1)):=by have:=congrArg Prod.fst hx;simpa using this.symm
          subst G
          by_cases E:P.cellsOf t=m*P.cellsOf e
          · obtain⟨ρ₁,σ₁,vss,X,r1,l1,n1,F,hh⟩:=qD ih ((List.range m).map fun i=>(e,(cs.drop (i*P.cellsOf e)).take<|P.cellsOf e)) xs (by rw[mapM_map];exact K) I O hi Q
            have n1:vss.length=m:=by simpa using n1
            have F:xs.length=m:=by simpa using F
            have B:∀(i:Nat) (vs:List V),vss[i]?=some vs->∃x,xs[i]?=some x/\eA P σ₁ fuel e x.1 vs/\dA ρ₁ vs ((cs.drop (i*P.cellsOf e)).take<|P.cellsOf e):=fun i vs hv=>by
              have A:i<m:=by rw[<-n1];exact(gA.1 hv).1
              have z:i<xs.length:=by omega
              obtain⟨S,k2⟩:=hh i (e,(cs.drop (i*P.cellsOf e)).take<|P.cellsOf e) xs[i] vs (by rw[gM_,List.getElem?_range A];rfl) (gC z) hv;exact⟨xs[i],gC z,S,k2⟩
            have L:∀vs∈vss,vs.length=P.cellsOf e:=fun vs hv=>by
              obtain⟨i,A,rfl⟩:=List.getElem_of_mem hv;obtain⟨x,_,_,k⟩:=B i _ (gC A);have h1:=k.length;rw[lT_,lD_,hlen,E] at h1;have:(i+1)*P.cellsOf e<=m*P.cellsOf e:=nM_ _ oM;rw[Nat.succ_mul] at this;omega
            have R:dA ρ₁ vss.flatten cs:=by
              have:=dA.flatten (I:=ρ₁) (vss:=vss) (css:=(List.range m).map fun i=>(cs.drop (i*P.cellsOf e)).take (P.cellsOf e)) (by simpa using n1) (fun i vs c hv C=>by
                obtain⟨x,_,_,k⟩:=B i vs hv;have A:i<m:=by rw[<-n1];exact(gA.1 hv).1
                rw[gM_,List.getElem?_range A] at C;cases C;exact k)
              rw[chunks_flatten,<-E,<-hlen,List.take_length] at this;exact this
            refine⟨ρ₁,σ₁,vss.flatten,X,r1,l1,?_,R⟩;unfold eA;rw[hu];dsimp only;intro _;refine⟨by simpa using F,by rw[<-hlen];exact R.length.symm,fun i x hx=>?_⟩
            have A:i<vss.length:=by
              have:=(gA.1 hx).1;rw[lM_] at this;omega
            rw[nb L<|gC A];obtain⟨y,hy,k,_⟩:=B i vss[i] (gC A);rw[gM_,hy] at hx;cases hx;exact k
          · exact other fun vs=>by unfold eA;rw[hu];exact fun h'=>absurd h' E
        · cases h
      | slice e=>
        split at h<;>first | (rename_i he;cases he;done) | skip
        all_goals first
          | (rename_i he
             cases h;exact one (v:=.av) Z (fun I=>by simp only[VR]) (by unfold eA;rw[hu]))
          | (rename_i e' a len cap he
             cases he;exact I3 hw ih hu h hi Q)
          | cases h
      | _=>exact other fun vs=>by unfold eA;rw[hu];trivial
end
section
variable {P:Program} {G:Cx} {ev:Operand->Option V} {O:N}
def Ext (O O':N):Prop:=O.next<=O'.next/\∀(b:Nat) (o:cN),b<O.next->O.m.get b=some o->O'.m.get b=some o
theorem Ext.refl (O:N):Ext O O:=⟨nR_ _,fun _ _ _ h=>h⟩
theorem Ext.trans {O σ₁ σ₂:N} (h:Ext O σ₁) (h':Ext σ₁ σ₂):Ext O σ₂:=⟨Nat.le_trans h.1 h'.1,fun b o hb d=>h'.2 b o (Nat.lt_of_lt_of_le hb h.1) (h.2 b o hb d)⟩
theorem x7 (O:N) (o:cN):(O.alloc o).m.get O.next=some o:=PT.dE _ _ _
theorem nc (O:N) (o:cN) {b:Nat} (h:b<O.next):(O.alloc o).m.get b=O.m.get b:=PT.dB _ _ _ _ (Nat.ne_of_lt h)
theorem z9 (O:N) (b:Nat) (o:cN):(O.setObj b o).m.get b=some o:=PT.dE _ _ _
theorem nd (O:N) {b b':Nat} (o:cN) (h:b'≠b):(O.setObj b o).m.get b'=O.m.get b':=PT.dB _ _ _ _ h
theorem Ext.alloc (O:N) (o:cN):Ext O (O.alloc o):=⟨Nat.le_succ _,fun b o' hb h=>by rw[nc O o hb];exact h⟩
theorem Ext.set {O σ₁:N} (h:Ext O σ₁) {b:Nat} (hb:O.next<=b) (o:cN):Ext O (σ₁.setObj b o):=⟨h.1,fun c o' d u=>by rw[nd σ₁ o<|Nat.ne_of_lt<|Nat.lt_of_lt_of_le d hb];exact h.2 c o' d u⟩
theorem an {x:Operand} {v:V} (h:ev x=some v):dW P G ev O (.move x)= .val v O:=by
 show(match ev x with | some v=>HR.val v O | none=>_)=_;rw[h]
theorem al {x:Operand} {v:V} (h:ev x=some v):dW P G ev O (.assign x)= .val v O:=by
 show(match ev x with | some v=>HR.val v O | none=>_)=_;rw[h]
theorem a9 {op:Op} {v:V} (hk:kindOf P op= .pure) (h:dj P ev op=some v):dW P G ev O op= .val v O:=by
 unfold dW;simp_all
theorem Bc {op:Op} {v:V} (hk:kindOf P op= .read) (h:gp P ev O op=some v):dW P G ev O op= .val v O:=by
 unfold dW;simp_all
theorem tC {op:Op} {ob:cN} {mk:Mk} (hk:kindOf P op= .alloc) (h:fP P ev op=some (ob,mk)):dW P G ev O op= .val (mk.of O.next) (O.alloc ob):=by
 unfold dW;simp_all
theorem kF {op:Op} {r:HR} (hk:kindOf P op= .jO) (h:gf P G.ov ev O op=r):dW P G ev O op=r:=by
 unfold dW;rw[hk];exact h
theorem ax {t:TypeId} {x:Operand} {b:Pos} {off:Nat} {cells:List V} {e:Nat} {ro:Bool} {v:V} (hx:ev x=some (.ptr b off)) (hb:O.m.get b=some (.row cells e ro)) (d:dT P t=some none) (hv:nth cells off=some v):dW P G ev O (.load t x)= .val v O:=by
 refine Bc Z ?_;simp only[gp,hx,hb,d,hv]
theorem aO {t:TypeId} {x:Operand} {b:Pos} {off n:Nat} {cells:List V} {e:Nat} {ro:Bool} {vs:List V} (hx:ev x=some (.ptr b off)) (hb:O.m.get b=some (.row cells e ro)) (u:dT P t=some (some n)) (hl:off+n<=cells.length) (hv:(cells.drop off).take n=vs):dW P G ev O (.load t x)= .val (.agg vs) O:=by
 refine Bc Z ?_;have d:Nat.ble (off+n) (dn cells)=true:=by rw[nE_,bN];exact hl
 simp only[gp,hx,hb,u,d,cond_true,dp,dQ,hv]
theorem aw {s:TypeId} {x:Operand} {i:Nat} {b:Pos} {off k:Nat} (hx:ev x=some (.ptr b off)) (hk:nw P s i=some k):dW P G ev O (.fieldAddr s x i)= .val (.ptr b (off+k)) O:=by
 refine a9 Z ?_;unfold nw at hk;simp only[dj,hx];cases d:structOf P s with
 | none=>simp_all
 | some fs=>
  rw[d] at hk;dsimp only at hk⊢;cases hf:fs[i]? with
  | none=>simp_all
  | some f=>
   rw[hf] at hk;dsimp only at hk⊢;rw[pJ] at hk
   grind
theorem Mf {t e:TypeId} {j:TypeInfo} {x i:Operand} {b:Pos} {off len n:Nat} {c:ql} {k:IntKind} (d:P.underlying t=some (.slice e)) (hj:P.info? e=some j) (hx:ev x=some (.slice b off len c)) (hi:ev i=some (.int k (.ofNat n))) (u:n<len):dW P G ev O (.indexAddr t x i)= .val (.ptr b (off+n*j.size)) O:=by
 refine a9 Z ?_;have:Nat.ble (Nat.succ n) len=true:=by rw[nE_];exact u
 simp only[dj,d,hx,hi,hj,this,cond_true]
theorem rI {c:Call} {t e:TypeId} {x:Operand} {b:Pos} {off len:Nat} {cp:ql} (d:c.callee= .builtin .len) (u:c.argTypes[0]?=some t) (w:c.args.toList= [x]) (hu:P.underlying t=some (.slice e)) (hx:ev x=some (.slice b off len cp)):dW P G ev O (.call c)= .val (.int .i64 (.ofNat len)) O:=by
 refine a9 (by simp[kindOf,d,isMap,u,hu]) ?_;simp only[dj,d,u,w,hx,wP,hu,Option.map_some]
theorem az {o:BinOp} {t r:TypeId} {x y:Operand} {a b v:V} (hx:ev x=some a) (hy:ev y=some b) (h:sG P (yV x || yV y) o t a b=some v):dW P G ev O (.binOp o t x y r)= .val v O:=by
 refine a9 Z ?_;simp only[dj,hx,hy,h]
theorem aD {c a b:Operand} {q:Bool} {v:V} (d:ev c=some (.bool q)) (h:(if q then ev a else ev b)=some v):dW P G ev O (.pick c a b)= .val v O:=by
 refine a9 Z ?_;cases q with
 | true=>simp only[dj,d];exact h
 | false=>simp only[dj,d];exact h
theorem dq {t:TypeId} {x:Operand} {q:Bool} (hx:ev x=some (.bool q)):dW P G ev O (.unOp .not t x)= .val (.bool (!q)) O:=by
 refine a9 Z ?_;simp only[dj,hx];cases q<;>rfl
theorem cG {e:TypeId} {x:Operand} {v:V} {cs:List V} (hx:ev x=some v) (b:df v=some cs):dW P G ev O (.box e x)= .val (.ptr O.next 0) (O.alloc (.row cs e false)):=by
 exact tC (op:=.box e x) (mk:=.ptr) (ob:=.row cs e false) Z (by simp only[fP,hx,Option.bind_some,b])
theorem bS {e:TypeId} {cs:List V} (b:(fw P e).bind df=some cs) (d:tf P e=false):dW P G ev O (.alloc e)= .val (.ptr O.next 0) (O.alloc (.row cs e false)):=by
 exact tC (op:=.alloc e) (mk:=.ptr) (ob:=.row cs e false) Z (by simp only[fP,b,d,cond_false])
theorem Mg {t:TypeId} {x y:Operand} {b:Pos} {off:Nat} {v:V} {cs cells:List V} {e:Nat} {j:TypeInfo} (hx:ev x=some (.ptr b off)) (hy:ev y=some v) (d:df v=some cs) (hb:O.m.get b=some (.row cells e false)) (hj:P.info? t=some j) (hl:cs.length=j.size) (hle:off+j.size<=cells.length) (aa:cE cs=true):
  dW P G ev O (.store t x y)= .skip (O.setObj b (.row (dM cs cells off) e false)):=by
 refine kF Z ?_
 have h1:(Nat.beq (dn cs) j.size && Nat.ble (off+j.size) (dn cells) && cE cs)=true:=by
  rw[bA_,bA_,Nat.beq_eq,nE_,bN,bN]
  simp_all
 simp only[gf,hx,hy,xG,d,hb,hj,h1,cond_true]
theorem aR {c:Call} {f:Operand} {g:Nat} {fi ca args:List V} (b:c.callee= .value f) (hf:ev f=some (.func g fi ca)) (d:lO ev c.args.toList=some args) (u:Ae P g=true):dW P G ev O (.call c)= .enter g (fi++(args++ca)) O:=by
 refine kF (by simp[kindOf,b]) ?_;simp only[gf,b,hf,d,yt,u,cond_true,dX]
end
end Go.Ev
namespace Go.Ev
theorem Gj {α:Type} (n:Nat) (t:jS α) (b:n<16):(xL n).run t ((jE n).run t)=t:=by
 rcases Hb b with rfl | rfl | rfl | rfl | rfl | rfl | rfl | rfl | rfl | rfl | rfl | rfl | rfl | rfl | rfl | rfl<;>rfl
theorem JE {α:Type} (t:jf α) (k:Nat) (hk:k<256):pY t k (jI t k)=t:=by
 unfold pY jI;rw[Gj (Nat.mod k 16) _<|Nat.mod_lt _ (by decide)];exact Gj (Nat.div k 16) _ (by show k/16<16;omega)
theorem PT.LK {α:Type} {t:PT α} {k:Nat} {o:Option α} (h:t.get k=o) (hk:k<256):t.put o k=t:=by
 subst h;rw[PT.pH _ hk];cases t with
 | mk s m l=>rw[PT.s9 _ _ _ _ hk];exact congrArg (fun s=>PT.mk s m l)<|JE s k hk
def JG:PT V->List (Nat×V)->PT V
 | t,[]=>t
 | t,(k,v)::l=>JG (t.put (some v) k) l
def MJ (t:PT V):List (Nat×V)->Prop
 | []=>True
 | (k,v)::l=>t.get k=some v/\MJ t l
theorem MJ.JG {t:PT V}:∀{l:List (Nat×V)},MJ t l->(l.all fun x=>Nat.blt x.1 256)=true->JG t l=t
 | [],_,_=>rfl
 | (k,v)::l,h,hl=>by
  rw[List.all_cons,bA_] at hl;have hk:k<256:=by have:=hl.1;exact Nat.le_of_ble_eq_true this
  show Go.Ev.JG (t.put (some v) k) l=t;rw[PT.LK h.1 hk];exact h.2.JG hl.2
section
variable [Env] {P:Program} {G:Cx} {ev:Operand->Option V} {O:N}
theorem aS {id:Nat} {Q:Ex->PT V->N->Prop} {t:PT V} (h:Q .normal t O):iC id Q (.exit id) t O:=by
 show(if id=id then _ else _)
 simp_all
theorem lz {id j:Nat} {Q:Ex->PT V->N->Prop} {t:PT V} (hj:Nat.beq j id=false) (h:Q (.exit j) t O):iC id Q (.exit j) t O:=by
 show(if j=id then _ else _);rw[if_neg (fun e=>by simp_all)];exact h
theorem aU {n i:Nat} {b:Code} {Q:Ex->PT V->N->Prop} {t:PT V} (h:Q (.exit i) t O):db P G n b Q (.exit i) t O:=h
theorem ay {n:Nat} {b:Code} {Q:Ex->PT V->N->Prop} {t:PT V} (h:Q .ret t O):db P G n b Q .ret t O:=h
theorem eI {t e:TypeId} {m:Nat} {x i:Operand} {b:Pos} {off len n:Nat} {c:ql} {k:IntKind} (d:P.underlying t=some (.slice e)) (hj:(P.info? e).map (·.size)=some m) (hx:ev x=some (.slice b off len c)) (hi:ev i=some (.int k (.ofNat n))) (u:n<len):dW P G ev O (.indexAddr t x i)= .val (.ptr b (off+n*m)) O:=by
 cases hq:P.info? e with
 | none=>simp_all
 | some j=>
  rw[hq] at hj;cases hj;exact Mf d hq hx hi u
theorem kU {t:TypeId} {m:Nat} {x y:Operand} {b:Pos} {off:Nat} {v:V} {cs cells:List V} {e:Nat} (hx:ev x=some (.ptr b off)) (hy:ev y=some v) (hc:df v=some cs) (hb:O.m.get b=some (.row cells e false)) (hj:(P.info? t).map (·.size)=some m) (hl:cs.length=m) (hle:off+m<=cells.length) (aa:cE cs=true):
  dW P G ev O (.store t x y)= .skip (O.setObj b (.row (dM cs cells off) e false)):=by
 cases hq:P.info? t with
 | none=>simp_all
 | some j=>
  grind [Mg]
end
end Go.Ev
namespace Go.Ev
variable [Env]
abbrev KP:=Nat->cN->Prop
def KP.le (K K':KP):Prop:=∀b o,K b o->K' b o
theorem KP.le_refl (K:KP):KP.le K K:=fun _ _ h=>h
theorem KP.le_trans {K K' K'':KP} (h:KP.le K K') (h':KP.le K' K''):KP.le K K'':=fun b o hb=>h' b o (h b o hb)
def KP.add (K:KP) (b:Nat) (o:cN):KP:=fun b' o'=>K b' o'∨(b'=b/\o'=o)
theorem KP.r9 (K:KP) (b:Nat) (o:cN):KP.le K (K.add b o):=fun _ _ h=>.inl h
abbrev Own:=List (Nat×cN)
structure D (O:N) (K:KP) (L:Own):Prop where
 kept:∀b o,K b o->b<O.next/\O.m.get b=some o/\∀e∈L,e.1≠b
 own:∀e∈L,e.1<O.next/\O.m.get e.1=some e.2
 ne:L.Pairwise fun a b=>a.1≠b.1
section
variable {O:N} {K:KP} {L:Own}
theorem D.da (h:D O K L) {b:Nat} {o:cN} (hk:K b o):O.m.get b=some o:=(h.kept b o hk).2.1
theorem D.get (h:D O K L) (k:Nat) {b:Nat} {o:cN} (hk:L[k]?=some (b,o)):O.m.get b=some o:=(h.own _<|gB_ hk).2
theorem D.alloc (h:D O K L) (o:cN):D (O.alloc o) K ((O.next,o)::L) where
 kept b o' hb:=by
  obtain⟨h1,d,h3⟩:=h.kept b o' hb;refine⟨Nat.lt_succ_of_lt h1,by rw[nc O o h1];exact d,fun e he=>?_⟩
  grind
 own e he:=by
  rcases mQ_.1 he with rfl | he
  ·exact⟨Nat.lt_succ_self _,x7 _ _⟩
  obtain⟨h1,d⟩:=h.own e he;exact⟨Nat.lt_succ_of_lt h1,by rw[nc O o h1];exact d⟩
 ne:=List.pairwise_cons.2 ⟨fun e he=>fun hh=>by have:=(h.own e he).1;omega,h.ne⟩
theorem D.pop {e:Nat×cN} (h:D O K (e::L)):D O K L where
 kept b o hb:=let ⟨h1,d,h3⟩:=h.kept b o hb;⟨h1,d,fun e he=>h3 e (mC_ _ he)⟩
 own e he:=h.own e (mC_ _ he)
 ne:=(List.pairwise_cons.1 h.ne).2
theorem D.bA:∀{M:Own},D O K (M++L)->D O K L
 | [],h=>h
 | _::_,h=>D.bA h.pop
theorem D.perm {L':Own} (h:D O K L) (hp:L.Perm L'):D O K L' where
 kept b o hb:=let ⟨h1,d,h3⟩:=h.kept b o hb;⟨h1,d,fun e he=>h3 e (hp.mem_iff.2 he)⟩
 own e he:=h.own e (hp.mem_iff.2 he)
 ne:=(hp.pairwise_iff (fun {a b} hab=>fun e=>hab e.symm)).1 h.ne
theorem D.Cb {b:Nat} {o:cN} (h:D O K ((b,o)::L)):D O (K.add b o) L where
 kept b' o' hb:=by
  rcases hb with hb | ⟨rfl,rfl⟩
  ·exact h.pop.kept b' o' hb
  exact⟨(h.own _<|mS_ ..).1,(h.own _<|mS_ ..).2,fun e he hh=>(List.pairwise_cons.1 h.ne).1 e he hh.symm⟩
 own:=h.pop.own
 ne:=h.pop.ne
theorem D.oI {b:Nat} {o:cN} (h:D O K ((b,o)::L)) (o':cN):D (O.setObj b o') K ((b,o')::L) where
 kept b' o'' hb:=by
  obtain⟨h1,d,h3⟩:=h.kept b' o'' hb;refine⟨h1,by grind [nd,mS_],fun e he=>?_⟩;rcases mQ_.1 he with rfl | he
  ·simp_all
  grind
 own e he:=by
  rcases mQ_.1 he with rfl | he
  ·exact⟨(h.own _<|mS_ ..).1,z9 _ _ _⟩
  obtain⟨h1,d⟩:=h.own e (mC_ _ he);exact⟨h1,by rw[nd O o' (fun hh=>(List.pairwise_cons.1 h.ne).1 e he hh.symm)];exact d⟩
 ne:=List.pairwise_cons.2 ⟨(List.pairwise_cons.1 h.ne).1,(List.pairwise_cons.1 h.ne).2⟩
theorem D.LW {b:Nat} {o:cN} {x:Nat×cN} (h:D O K (x::(b,o)::L)) (o':cN):D (O.setObj b o') K (x::(b,o')::L):=
 ((h.perm<|List.Perm.swap ..).oI o').perm (List.Perm.swap ..)
theorem JA {α:Type} (x y z:α) (L:List α):(x::y::z::L).Perm (z::x::y::L):=
 (List.Perm.cons x<|List.Perm.swap z y L).trans (List.Perm.swap z x (y::L))
theorem D.Qz {b:Nat} {o:cN} {x y:Nat×cN} (h:D O K (x::y::(b,o)::L)) (o':cN):D (O.setObj b o') K (x::y::(b,o')::L):=
 ((h.perm<|JA ..).oI o').perm (JA ..).symm
theorem Ms {α:Type} (x y z u:α) (L:List α):(x::y::z::u::L).Perm (u::x::y::z::L):=
 (List.Perm.cons x<|JA y z u L).trans (List.Perm.swap u x (y::z::L))
theorem D.QA {b:Nat} {o:cN} {x y z:Nat×cN} (h:D O K (x::y::z::(b,o)::L)) (o':cN):D (O.setObj b o') K (x::y::z::(b,o')::L):=
 ((h.perm<|Ms ..).oI o').perm (Ms ..).symm
theorem D.xr {b:Nat} {o:cN} (h:D O K ((b,o)::L)) (o':cN):D ((O.drop b).alloc o') K ((O.next,o')::L):=by
 refine D.alloc (O:=O.drop b) ⟨fun b' o'' hb=>?_,fun e he=>?_,h.pop.ne⟩ o'
 ·obtain⟨h1,d,h3⟩:=h.kept b' o'' hb;exact⟨h1,by rw[show(O.drop b).m.get b'=O.m.get b' from PT.dB _ _ _ _ (fun e=>h3 _ (mS_ ..) e.symm)];exact d,fun e he=>h3 e (mC_ _ he)⟩
 obtain⟨h1,d⟩:=h.own e (mC_ _ he);exact⟨h1,by rw[show(O.drop b).m.get e.1=O.m.get e.1 from PT.dB _ _ _ _ (fun hh=>(List.pairwise_cons.1 h.ne).1 e he hh.symm)];exact d⟩
theorem D.named (h:D O K L):∃L',D O K L'/\L=L':=⟨L,h,Z⟩
theorem D.ext {O':N} (h:D O K L) (he:Ext O O'):D O' K L where
 kept b o hb:=let ⟨h1,d,h3⟩:=h.kept b o hb;⟨Nat.lt_of_lt_of_le h1 he.1,he.2 b o h1 d,h3⟩
 own e hm:=let ⟨h1,d⟩:=h.own e hm;⟨Nat.lt_of_lt_of_le h1 he.1,he.2 _ _ h1 d⟩
 ne:=h.ne
end
def gi (K:KP) (p:V) (vs:List V):Prop:=
 ∃(b off:Nat) (cells:List V) (e:Nat) (ro:Bool),p= .ptr b off/\K b (.row cells e ro)/\off+vs.length<=cells.length/\(cells.drop off).take vs.length=vs
theorem gi.mono {K K':KP} (hk:KP.le K K') {p:V} {vs:List V} (h:gi K p vs):gi K' p vs:=
 let ⟨b,off,cells,e,ro,h1,d,h3,h4⟩:=h;⟨b,off,cells,e,ro,h1,hk _ _ d,h3,h4⟩
def Mh (m len:Nat) (c:ql):Prop:=c= .upto m∨∃n,c= .known n/\len<=n
def bF {α:Type} (K:KP) (m:Nat) (R:α->List V->Prop) (l:List α) (v:V):Prop:=
 (l= []/\v= .av)∨∃(b off:Nat) (c:ql) (cells:List V) (e:Nat) (ro:Bool),v= .slice b off l.length c/\Mh m l.length c/\K b (.row cells e ro)/\off+l.length*m<=cells.length/\l.length<=9223372036854775807/\
  ∀(i:Nat) (x:α),l[i]?=some x->R x ((cells.drop (off+i*m)).take m)
theorem bF.mono {α:Type} {K K':KP} {m:Nat} {R R':α->List V->Prop} {l:List α} {v:V} (h:bF K m R l v) (hk:KP.le K K') (d:∀x vs,R x vs->R' x vs):bF K' m R' l v:=by
 rcases h with h | ⟨b,off,c,cells,e,ro,h1,u,h3,h4,h5⟩
 ·exact .inl h
 exact .inr ⟨b,off,c,cells,e,ro,h1,u,hk _ _ h3,h4,h5.1,fun i x hx=>d x _ (h5.2 i x hx)⟩
theorem bF.bL {α:Type} {K:KP} {m:Nat} {R:α->List V->Prop} {l:List α} {v:V} (h:bF K m R l v):l.length<=9223372036854775807:=by
 rcases h with ⟨rfl,_⟩ | ⟨b,off,c,cells,e,ro,h1,h2,h3,h4,h5,_⟩
 ·exact Nat.zero_le _
 exact h5
theorem bF.leaf {α:Type} {K:KP} {m:Nat} {R:α->List V->Prop} {l:List α} {v:V} (h:bF K m R l v):df v=some [v]/\lh v=true:=by
 rcases h with ⟨_,rfl⟩ | ⟨b,off,c,cells,e,ro,rfl,_⟩<;>exact⟨rfl,rfl⟩
theorem bF.wP {α:Type} {K:KP} {m:Nat} {R:α->List V->Prop} {l:List α} {v:V} (h:bF K m R l v) {P:Program} {t e:TypeId} (hu:P.underlying t=some (.slice e)):Go.Ev.wP P t v=some l.length:=by
 rcases h with ⟨rfl,rfl⟩ | ⟨b,off,c,cells,e,ro,rfl,_⟩
 ·simp only[Go.Ev.wP,hu];rfl
 simp only[Go.Ev.wP,hu]
theorem bF.at {α:Type} {K:KP} {m:Nat} {R:α->List V->Prop} {l:List α} {v:V} (h:bF K m R l v) {i:Nat} {x:α} (hi:l[i]?=some x):
  ∃(b off:Nat) (c:ql) (vs:List V),v= .slice b off l.length c/\i<l.length/\gi K (.ptr b (off+i*m)) vs/\vs.length=m/\R x vs:=by
 have d:i<l.length:=(gA.1 hi).1;rcases h with ⟨rfl,_⟩ | ⟨b,off,c,cells,e,ro,rfl,h2,h3,h4,h5⟩
 ·simp_all
 have hle:(i+1)*m<=l.length*m:=nM_ _ d;rw[Nat.succ_mul] at hle;have u:((cells.drop (off+i*m)).take m).length=m:=by grind
 refine⟨b,off,c,_,Z,d,⟨b,off+i*m,cells,e,ro,Z,h3,by rw[u];omega,by rw[u]⟩,u,h5.2 i x hi⟩
section
variable {P:Program} {G:Cx} {ev:Operand->Option V} {O:N} {K:KP} {L:Own}
theorem aZ {α:Type} {m:Nat} {R:α->List V->Prop} {l:List α} {c:Call} {t e:TypeId} {x:Operand} {v:V} (u:bF K m R l v) (b:c.callee= .builtin .len) (d:c.argTypes[0]?=some t) (w:c.args.toList= [x]) (hu:P.underlying t=some (.slice e)) (hx:ev x=some v):dW P G ev O (.call c)= .val (.int .i64 (.ofNat l.length)) O:=by
 refine a9 (by simp[kindOf,b,isMap,d,hu]) ?_;simp only[dj,b,d,w,hx,u.wP hu,Option.map_some]
theorem mD {c:Call} {t:TypeId} {x:Operand} {s:List Nat} (b:c.callee= .builtin .len) (d:c.argTypes[0]?=some t) (u:c.args.toList= [x]) (hu:P.underlying t=some .string) (hx:ev x=some (.str s)):dW P G ev O (.call c)= .val (.int .i64 (.ofNat<|dn s)) O:=by
 refine a9 (by simp[kindOf,b,isMap,d,hu]) ?_;simp only[dj,b,d,u,hx,wP,hu,Option.map_some]
theorem aT {t:TypeId} {x:Operand} {p v:V} {vs:List V} (d:D O K L) (hp:gi K p vs) (hx:ev x=some p) (u:dT P t=some none) (hv:vs[0]?=some v):dW P G ev O (.load t x)= .val v O:=by
 obtain⟨b,off,cells,e,ro,rfl,w,h3,h4⟩:=hp;refine ax hx (d.da w) u ?_
 grind [eU]
theorem Kz {t:TypeId} {x:Operand} {p:V} {vs:List V} {n:Nat} (d:D O K L) (hp:gi K p vs) (hx:ev x=some p) (u:dT P t=some (some n)) (hv:n<=vs.length):dW P G ev O (.load t x)= .val (.agg<|vs.take n) O:=by
 obtain⟨b,off,cells,e,ro,rfl,w,h3,h4⟩:=hp;refine aO hx (d.da w) u oM ?_
 grind
end
section
variable {P:Program} {G:Cx} {n:Nat} {t:PT V} {O:N} {K:KP} {L:Own} {Q:Ex->PT V->N->Prop} {ops:Array Oper} {o:Oper} {l:List Oper}
theorem aP {c:Bool} {t':Bool->PT V} (hw:bH ops t o=some true) (hv:dW P G (bp G t) O o.op= .val (.bool c) O) (hp:∀b,dP t n o.dst (.bool b)=some (t' b))
  (h1:c=true->bK P G ops n l (t' true) O Q) (h0:c=false->bK P G ops n l (t' false) O Q):bK P G ops n (o::l) t O Q:=by
 refine Y hw hv (hp c) ?_;cases c with
 | true=>exact h1 Z
 | false=>exact h0 Z
theorem bn (d:D O K L) {ob:cN} {t':Nat->PT V} (hw:bH ops t o=some true) (hv:dW P G (bp G t) O o.op= .val (.ptr O.next 0) (O.alloc ob)) (hp:∀b,dP t n o.dst (.ptr b 0)=some (t' b))
  (h:∀(O':N) (b:Nat),D O' K ((b,ob)::L)->bK P G ops n l (t' b) O' Q):bK P G ops n (o::l) t O Q:=
 Y hw hv (hp _) (h _ _<|d.alloc ob)
theorem fY (d:D O K L) {ob:cN} {k c:Nat} {t':Nat->PT V} (hw:bH ops t o=some true) (hv:dW P G (bp G t) O o.op= .val (.slice O.next 0 k (.known c)) (O.alloc ob)) (hp:∀b,dP t n o.dst (.slice b 0 k (.known c))=some (t' b))
  (h:∀(O':N) (b:Nat),D O' K ((b,ob)::L)->bK P G ops n l (t' b) O' Q):bK P G ops n (o::l) t O Q:=
 Y hw hv (hp _) (h _ _<|d.alloc ob)
theorem bE {b:Nat} {ob ob':cN} {t':PT V} (d:D O K ((b,ob)::L)) (hw:bH ops t o=some true) (hv:dW P G (bp G t) O o.op= .skip (O.setObj b ob')) (hp:dP t n o.dst unit=some t')
  (h:∀O',D O' K ((b,ob')::L)->bK P G ops n l t' O' Q):bK P G ops n (o::l) t O Q:=gR hw hv hp (h _<|d.oI ob')
theorem eE {b:Nat} {ob ob':cN} {x:Nat×cN} {t':PT V} (d:D O K (x::(b,ob)::L)) (hw:bH ops t o=some true) (hv:dW P G (bp G t) O o.op= .skip (O.setObj b ob')) (hp:dP t n o.dst unit=some t')
  (h:∀O',D O' K (x::(b,ob')::L)->bK P G ops n l t' O' Q):bK P G ops n (o::l) t O Q:=gR hw hv hp (h _<|d.LW ob')
theorem kZ {b:Nat} {ob ob':cN} {x y:Nat×cN} {t':PT V} (d:D O K (x::y::(b,ob)::L)) (hw:bH ops t o=some true) (hv:dW P G (bp G t) O o.op= .skip (O.setObj b ob')) (hp:dP t n o.dst unit=some t')
  (h:∀O',D O' K (x::y::(b,ob')::L)->bK P G ops n l t' O' Q):bK P G ops n (o::l) t O Q:=gR hw hv hp (h _<|d.Qz ob')
theorem ka {b:Nat} {ob ob':cN} {x y z:Nat×cN} {t':PT V} (d:D O K (x::y::z::(b,ob)::L)) (hw:bH ops t o=some true) (hv:dW P G (bp G t) O o.op= .skip (O.setObj b ob')) (hp:dP t n o.dst unit=some t')
  (h:∀O',D O' K (x::y::z::(b,ob')::L)->bK P G ops n l t' O' Q):bK P G ops n (o::l) t O Q:=gR hw hv hp (h _<|d.QA ob')
theorem cy {α:Type} {m:Nat} {R:α->List V->Prop} {la:List α} {v:V} {i:Nat} {x:α} {ty e:TypeId} {xo io:Operand} {k:IntKind} {t':V->PT V} (w:bF K m R la v) (hi:la[i]?=some x) (hw:bH ops t o=some true) (z:o.op= .indexAddr ty xo io)
  (A:P.underlying ty=some (.slice e)) (hj:(P.info? e).map (·.size)=some m) (hx:bp G t xo=some v) (d:bp G t io=some (.int k (.ofNat i))) (hp:∀p,dP t n o.dst p=some (t' p))
  (h:∀p vs,gi K p vs->vs.length=m->R x vs->bK P G ops n l (t' p) O Q):bK P G ops n (o::l) t O Q:=by
 obtain⟨b,off,c,vs,rfl,u,h1,B,h3⟩:=w.at hi;refine Y hw ?_ (hp _)<|h _ vs h1 B h3;rw[z];exact eI A hj hx d u
theorem bJ {p:V} {vs:List V} {s:TypeId} {xo:Operand} {i k:Nat} {t':V->PT V} (d:gi K p vs) (hw:bH ops t o=some true) (u:o.op= .fieldAddr s xo i) (hx:bp G t xo=some p) (hk:nw P s i=some k) (hl:k<=vs.length) (hp:∀p,dP t n o.dst p=some (t' p))
  (h:∀p',gi K p' (vs.drop k)->bK P G ops n l (t' p') O Q):bK P G ops n (o::l) t O Q:=by
 obtain⟨b,off,cells,e,ro,rfl,w,h3,h4⟩:=d;refine Y hw ?_ (hp _)<|h _ ⟨b,off+k,cells,e,ro,Z,w,by grind,?_⟩
 ·rw[u];exact aw hx hk
 grind [List.drop_take,List.drop_drop]
theorem bR {f:Nat} {args:List V} {t':V->PT V} {R:V->N->Prop} (hw:bH ops t o=some true) (hv:dW P G (bp G t) O o.op= .enter f args O) (hp:∀v,dP t n o.dst v=some (t' v))
  (b:a8 P G f args O R) (h:∀v O',R v O'->bK P G ops n l (t' v) O' Q):bK P G ops n (o::l) t O Q:=
 DO hw hv (b.mono fun v O' d=>⟨_,hp v,h v O' d⟩)
theorem aF {x:Operand} {a b:Code} {c:Bool} (d:bp G t x=some (.bool c)) (h1:c=true->Ev P G a n t O Q) (h0:c=false->Ev P G b n t O Q):Ev P G (.cond x a b) n t O Q:=by
 refine zY d ?_
 grind
end
theorem aA:cE []=true:=rfl
theorem af {v:V} {vs:List V} (h:lh v=true) (hs:cE vs=true):cE (v::vs)=true:=by
 grind [cE]
section
variable {P:Program} {G:Cx} {ev:Operand->Option V} {O:N} {K:KP} {L:Own}
theorem aK {t:TypeId} {m:Nat} {x y:Operand} {b:Pos} {off:Nat} {v:V} {cs cells cells':List V} {e:Nat} (hx:ev x=some (.ptr b off)) (hy:ev y=some v) (u:df v=some cs) (hb:O.m.get b=some (.row cells e false)) (hj:(P.info? t).map (·.size)=some m) (hl:cs.length=m) (hle:off+m<=cells.length) (d:cE cs=true) (w:dM cs cells off=cells'):
  dW P G ev O (.store t x y)= .skip (O.setObj b (.row cells' e false)):=by
 subst w;exact kU hx hy u hb hj hl hle d
theorem bP {t:TypeId} {x:Operand} {p:V} {vs:List V} {n:Nat} (hs:D O K L) (hp:gi K p vs) (hx:ev x=some p) (ha:dT P t=some (some n)) (hv:vs.length=n):dW P G ev O (.load t x)= .val (.agg vs) O:=by
 grind [Kz,List.take_length]
def placesOf (P:Program) (t:TypeId):Option (List (Nat×Nat)):=(structOf P t).bind fun fs=>cQ (fun f:Field=>(P.info? f.type).map fun j=>(f.offset,j.size)) fs.toList
theorem bO {place:Nat->Option (Nat×Nat)} {cells:List V}:jM place ev [] cells=some cells:=rfl
theorem bj {place:Nat->Option (Nat×Nat)} {i:Nat} {x:Operand} {l:List (Nat×Operand)} {cells:List V} {off size:Nat} {v:V} {vs:List V} {r:Option (List V)} (hp:place i=some (off,size)) (hx:ev x=some v) (hc:df v=some vs) (hl:(Nat.beq (dn vs) size && Nat.ble (off+size) (dn cells))=true) (h:jM place ev l (dM vs cells off)=r):jM place ev ((i,x)::l) cells=r:=by
 grind [jM]
theorem bI {t:TypeId} {parts:Array (Nat×Operand)} {places:List (Nat×Nat)} {zero cs:List V} (hp:placesOf P t=some places) (d:(fw P t).bind df=some zero) (hu:dT P t=some (some zero.length)) (hf:jM (nth places) ev parts.toList zero=some cs) (b:(structOf P t).isSome=true):dW P G ev O (.build t parts)= .val (.agg cs) O:=by
 refine a9 Z ?_;unfold placesOf structOf at hp;unfold structOf at b;rw[nW] at hp b;simp only[dj,d]
 grind
theorem gY {s d:TypeId} {x:Operand} {j k:IntKind} {n:Int} (hk:kindOf P (.convert s d x)= .pure) (b:P.underlying s=some (.int j)) (u:P.underlying d=some (.int k)) (hx:ev x=some (.int j n)):dW P G ev O (.convert s d x)= .val (.int k<|wr k n) O:=by
 refine a9 hk ?_;simp only[dj,b,u,hx]
end
section
variable {P:Program} {G:Cx} {n:Nat} {t:PT V} {O:N} {K:KP} {L:Own} {Q:Ex->PT V->N->Prop} {ops:Array Oper} {o:Oper} {l:List Oper}
theorem gw {f:Nat} {args:List V} {c:Bool} {t':V->PT V} (hw:bH ops t o=some true) (hv:dW P G (bp G t) O o.op= .enter f args O) (hp:∀v,dP t n o.dst v=some (t' v))
  (b:a8 P G f args O fun v O'=>v= .bool c/\D O' K L) (h1:c=true->∀O',D O' K L->bK P G ops n l (t' (.bool true)) O' Q) (h0:c=false->∀O',D O' K L->bK P G ops n l (t' (.bool false)) O' Q):bK P G ops n (o::l) t O Q:=
 bR hw hv hp b fun v O' ⟨hv,ar⟩=>by
  subst hv;cases c with
  | true=>exact h1 Z O' ar
  | false=>exact h0 Z O' ar
theorem bc {f:Nat} {args:List V} {u:V} {t':V->PT V} (hw:bH ops t o=some true) (hv:dW P G (bp G t) O o.op= .enter f args O) (hp:∀v,dP t n o.dst v=some (t' v))
  (b:a8 P G f args O fun v O'=>v=u/\D O' K L) (h:∀O',D O' K L->bK P G ops n l (t' u) O' Q):bK P G ops n (o::l) t O Q:=
 bR hw hv hp b fun v O' ⟨hv,ar⟩=>by simp_all
theorem aI {x:Operand} {a b:Code} (d:bp G t x=some (.bool true)) (h:Ev P G a n t O Q):Ev P G (.cond x a b) n t O Q:=zY d h
theorem aN {x:Operand} {a b:Code} (d:bp G t x=some (.bool false)) (h:Ev P G b n t O Q):Ev P G (.cond x a b) n t O Q:=zY d h
theorem ad {b:Code} (h:Ev P G b n t O Q):db P G n b Q .normal t O:=h
theorem aG {id:Nat} (h:Q .normal t O):iC id Q .normal t O:=h
theorem aJ {id:Nat} (h:Q .ret t O):iC id Q .ret t O:=h
def wU (I_:Nat->PT V->N->Prop) (j:Nat) (Q:Ex->PT V->N->Prop) (e:Ex) (t:PT V) (O:N):Prop:=
 match e with
 | .normal=>∃i,i<j/\I_ i t O
 | e=>Q e t O
theorem aL {I_:Nat->PT V->N->Prop} {j:Nat} (h:∃i,i<j/\I_ i t O):wU I_ j Q .normal t O:=h
theorem aW {I_:Nat->PT V->N->Prop} {j i:Nat} (h:Q (.exit i) t O):wU I_ j Q (.exit i) t O:=h
theorem bD {I_:Nat->PT V->N->Prop} {j:Nat} (h:Q .ret t O):wU I_ j Q .ret t O:=h
theorem Iz {b:Code} (I_:Nat->PT V->N->Prop) (j:Nat) (d:I_ j t O) (step:∀j t O,I_ j t O->Ev P G b n t O (wU I_ j Q)):Ev P G (.loop b) n t O Q:=
 K9 I_ (fun j t O h=>(step j t O h).mono fun e t' O' hq=>by cases e<;>exact hq) j t O d
end
def Lo:Nat:=70
def Ej (f:Nat):Bool:=Nat.beq f 9 || Nat.beq f 18
structure Plain (G:Cx):Prop where
 h1:∀f a s,G.HS f a s=none
 h2:∀f a,Ej f=false->G.HU f a=none
 h3:G.mem= []
 h4:∀f a s,G.stop f a s=none
 h5:∀f,Nat.beq f Lo=false->G.fk f=false
theorem IB {P:Program} {G:Cx} (b:Plain G) {f:Nat} {fn:Func} {c:Code} {args:List V} {O:N} {R:V->N->Prop} {t:PT V} (hf:P.funcs[f]?=some fn) (hb:fn.body=some c) (d:ra fn.ntmps args=some t)
  (h:Ev P G c fn.ntmps t O fun e t' O'=>(e= .normal∨e= .ret)/\∃v,eX P fn t' O'=some v/\R v O') (hk:Nat.beq f Lo=false:=by rfl) (hl:Ej f=false:=by rfl):a8 P G f args O R:=
 K8 (b.h1 _ _ _) (b.h2 _ _ hl) (b.h4 _ _ _) (b.h5 _ hk) hf hb d h
def zT (P:Program) (fn:Func) (R:V->N->Prop) (e:Ex) (t:PT V) (O:N):Prop:=(e= .normal∨e= .ret)/\∃v,eX P fn t O=some v/\R v O
theorem a7 {P:Program} {G:Cx} (b:Plain G) {f:Nat} {fn:Func} {c:Code} {args:List V} {O:N} {R:V->N->Prop} {t:PT V} (hf:P.funcs[f]?=some fn) (hb:fn.body=some c) (d:ra fn.ntmps args=some t)
  (h:Ev P G c fn.ntmps t O (zT P fn R)) (hk:Nat.beq f Lo=false:=by rfl) (hl:Ej f=false:=by rfl):a8 P G f args O R:=IB b hf hb d h hk hl
theorem CB {P:Program} {fn:Func} {k:Nat} {t:PT V} {O:N} {v:V} (b:fn.results.toList= [.tmp k]) (h:t.get k=some v):eX P fn t O=some v:=by
 unfold eX;rw[b]
 have:cQ (fG P t O) [.tmp k]=some [v]:=by
  have h':fG P t O (.tmp k)=some v:=h;unfold cQ;simp only[h']
 rw[this]
theorem CC {P:Program} {fn:Func} {j k:Nat} {t:PT V} {O:N} {u v:V} (w:fn.results.toList= [.tmp j,.tmp k]) (h1:t.get j=some u) (z:t.get k=some v):eX P fn t O=some (.tuple [u,v]):=by
 unfold eX;rw[w]
 have:cQ (fG P t O) [.tmp j,.tmp k]=some [u,v]:=by
  have b:fG P t O (.tmp j)=some u:=h1;have d:fG P t O (.tmp k)=some v:=z;unfold cQ;simp only[b,d]
 rw[this]
theorem aB {P:Program} {fn:Func} {R:V->N->Prop} {t:PT V} {O:N} {k:Nat} {v:V} (b:fn.results.toList= [.tmp k]) (h:t.get k=some v) (d:R v O):zT P fn R .ret t O:=⟨.inr Z,v,CB b h,d⟩
theorem cR {P:Program} {fn:Func} {R:V->N->Prop} {t:PT V} {O:N} {j k:Nat} {u v:V} (b:fn.results.toList= [.tmp j,.tmp k]) (h1:t.get j=some u) (d:t.get k=some v) (w:R (.tuple [u,v]) O):zT P fn R .ret t O:=⟨.inr Z,_,CC b h1 d,w⟩
end Go.Ev
namespace Go.Ev
theorem jS.eta {α:Type} (t:jS α):t=⟨(jE 0).run t,(jE 1).run t,(jE 2).run t,(jE 3).run t,(jE 4).run t,(jE 5).run t,(jE 6).run t,(jE 7).run t,(jE 8).run t,(jE 9).run t,(jE 10).run t,(jE 11).run t,(jE 12).run t,(jE 13).run t,(jE 14).run t,(jE 15).run t⟩:=by cases t;rfl
theorem jS.same {α:Type} {t t':jS α} (h:∀n,n<16->(jE n).run t=(jE n).run t'):t=t':=by
 rw[jS.eta t,h 0 (by decide),h 1 (by decide),h 2 (by decide),h 3 (by decide),h 4 (by decide),h 5 (by decide),h 6 (by decide),h 7 (by decide),h 8 (by decide),h 9 (by decide),h 10 (by decide),h 11 (by decide),h 12 (by decide),h 13 (by decide),h 14 (by decide),h 15 (by decide),<-jS.eta t']
theorem jf.same {α:Type} {t t':jf α} (h:∀k,k<256->jI t k=jI t' k):t=t':=by
 refine jS.same fun n hn=>jS.same fun m hm=>?_
 have:=h (n*16+m) oM;unfold jI at this;have e1:Nat.div (n*16+m) 16=n:=by show(n*16+m)/16=n;omega
 have e2:Nat.mod (n*16+m) 16=m:=by show(n*16+m)%16=m;omega
 simp_all
variable [Env]
def a6 (W:List Nat) (t t':PT V):Prop:=t'.m=t.m/\t'.l=t.l/\∀k,k<256->W.elem k=false->jI t'.s k=jI t.s k
theorem a6.refl (W:List Nat) (t:PT V):a6 W t t:=⟨Z,Z,fun _ _ _=>Z⟩
theorem a6.put {W:List Nat} {t t':PT V} {w:Nat} {o:Option V} (hw:(W.elem w && Nat.blt w 256)=true) (h:a6 W t t'):a6 W t (t'.put o w):=by
 obtain⟨h1,b,h3⟩:=h;rw[bA_,vD] at hw;obtain⟨s,m,l⟩:=t';rw[PT.s9 _ _ _ _ hw.2];refine⟨h1,b,fun k hk d=>?_⟩;show jI (pY s w o) k=_;rw[mb _ _ _ _ hw.2 hk,if_neg (fun e=>by simp_all)];exact h3 k hk d
theorem a6.dZ {W:List Nat} {t t':PT V} {w:Nat} (hw:Nat.blt w 256=true) (h:a6 (w::W) t t'):∃o,a6 W (t.put o w) t':=by
 rw[vD] at hw;obtain⟨h1,b,h3⟩:=h;refine⟨t'.get w,?_⟩;obtain⟨s,m,l⟩:=t;rw[PT.s9 _ _ _ _ hw,PT.pH _ hw];refine⟨h1,b,fun k hk hn=>?_⟩
 grind [mb]
theorem a6.kQ {W:List Nat} {t t':PT V} {a b c d:Nat} (hw:(Nat.blt a 256 && (Nat.blt b 256 && (Nat.blt c 256 && Nat.blt d 256)))=true) (h:a6 (a::b::c::d::W) t t'):∃u w z A,a6 W ((((t.put u a).put w b).put z c).put A d) t':=by
 simp only[bA_] at hw;obtain⟨h1,B,h3,h4⟩:=hw;obtain⟨u,h⟩:=h.dZ h1;obtain⟨w,h⟩:=h.dZ B;obtain⟨z,h⟩:=h.dZ h3;obtain⟨A,h⟩:=h.dZ h4
 grind
theorem a6.bQ {W:List Nat} {t t':PT V} {a b c d e f g i:Nat} (hw:(Nat.blt a 256 && (Nat.blt b 256 && (Nat.blt c 256 && Nat.blt d 256)))=true) (u:(Nat.blt e 256 && (Nat.blt f 256 && (Nat.blt g 256 && Nat.blt i 256)))=true) (h:a6 (a::b::c::d::e::f::g::i::W) t t'):
  ∃w z A B C E F K,a6 W ((((((((t.put w a).put z b).put A c).put B d).put C e).put E f).put F g).put K i) t':=by
 obtain⟨w,z,A,B,h⟩:=h.kQ hw;obtain⟨C,E,F,K,h⟩:=h.kQ u
 grind
theorem a6.nil {t t':PT V} (h:a6 [] t t'):t'=t:=by
 obtain⟨s,m,l⟩:=t;obtain⟨s',m',l'⟩:=t';obtain⟨h1,h2,h3⟩:=h;have:s'=s:=jf.same fun k hk=>h3 k hk Z
 simp_all
section
variable {P:Program} {G:Cx} {n:Nat} {t:PT V} {O:N} {Q:Ex->PT V->N->Prop}
theorem bh {b:Code} (W:List Nat) (I_:Nat->PT V->N->Prop) (j:Nat) (d:I_ j t O) (step:∀j t' O,a6 W t t'->I_ j t' O->Ev P G b n t' O (wU (fun j t'' O=>a6 W t t''/\I_ j t'' O) j Q)):Ev P G (.loop b) n t O Q:=
 Iz (fun j t'' O=>a6 W t t''/\I_ j t'' O) j ⟨a6.refl _ _,d⟩ fun j t' O h=>step j t' O h.1 h.2
end
theorem jz {a b:Nat}:cq (.ofNat a) (.ofNat b)=decide (a<b):=by
 show Nat.ble (Nat.succ a) b=_;rw[Bool.eq_iff_iff,nE_,decide_eq_true_iff];rfl
theorem eh {a b:Nat}:H (.ofNat a) (.ofNat b)=decide (a=b):=by
 show Nat.beq a b=_;rw[Bool.eq_iff_iff,Nat.beq_eq,decide_eq_true_iff]
theorem aY {i:Nat} (h:i<9223372036854775807):wr .i64 (Int.add (.ofNat i) (.ofNat 1))= .ofNat (i+1):=by
 show(bif Nat.ble (i+1) 9223372036854775807 then _ else _)=_
 grind [nE_]
end Go.Ev
namespace Go.Ev
variable [Env]
section
variable {P:Program} {G:Cx} {n:Nat} {t:PT V} {O:N} {K:KP} {L:Own} {Q:Ex->PT V->N->Prop} {ops:Array Oper} {o:Oper} {i:Nat} {rc:List Nat} {l:List (Nat×List Nat)}
theorem fU {v:V} {t':PT V} {O':N} (hi:ops[i]?=some o) (hw:bH ops t o=some true) (hv:dW P G (bp G t) O o.op= .val v O') (hp:dP t n o.dst v=some t') (h:du P G ops t' O' rc=true/\cO P G ops n l t' O' Q):cO P G ops n ((i,rc)::l) t O Q:=by
 obtain⟨hs,K,e,b,d,h1,u⟩:=h;refine⟨K,e,b,d,fun k hk=>?_,u⟩
 show(match ops[i]? with
  | some o=>jg P G (eH P G k) false ops n o t O (fun t' O'=>bif du P G ops t' O' rc then jP P G (eH P G k) ops n [] l t' O' else .err 86)
  | none=>.err 87)=_
 grind [jg,lE]
theorem ou {t':PT V} {O':N} (hi:ops[i]?=some o) (hw:bH ops t o=some true) (hv:dW P G (bp G t) O o.op= .skip O') (hp:dP t n o.dst unit=some t') (h:du P G ops t' O' rc=true/\cO P G ops n l t' O' Q):cO P G ops n ((i,rc)::l) t O Q:=by
 obtain⟨hs,K,e,b,d,h1,u⟩:=h;refine⟨K,e,b,d,fun k hk=>?_,u⟩
 show(match ops[i]? with
  | some o=>jg P G (eH P G k) false ops n o t O (fun t' O'=>bif du P G ops t' O' rc then jP P G (eH P G k) ops n [] l t' O' else .err 86)
  | none=>.err 87)=_
 grind [jg,lE]
theorem aX:du P G ops t O []=true:=rfl
theorem bu {j:Nat} {l:List Nat} (h:ku P G ops t O j=true) (hl:du P G ops t O l=true):du P G ops t O (j::l)=true:=by
 grind [du]
theorem bG {k:Nat} {v:V} (hi:ops[i]?=some o) (hw:bH ops t o=some true) (hd:o.dst=some k) (hg:t.get k=some v) (hk:kindOf P o.op= .read) (h:dW P G (bp G t) O o.op= .val v O) (hb:eB v v=true):ku P G ops t O i=true:=by
 have hr:gp P (bp G t) O o.op=some v:=by
  grind [dW]
 unfold ku
 simp_all
theorem lQ {k b e:Nat} {cs:List V} (hi:ops[i]?=some o) (hw:bH ops t o=some true) (hd:o.dst=some k) (hg:t.get k=some (.ptr b 0)) (hk:kindOf P o.op= .alloc) (ha:fP P (bp G t) o.op=some (.row cs e false,.ptr)) (hm:O.m.get b=some (.row cs e false)) (hb:eB.beqL cs cs=true):ku P G ops t O i=true:=by
 unfold ku
 simp_all
theorem fA (k:IntKind) (n:Int):eB.jm (.int k n) (.int k n)=true:=by
 show(sy k k && H n n)=true;rw[dK];cases k<;>simp[sy]
theorem H5 (s:List Nat):eB.jm (.str s) (.str s)=true:=by
 show uE s s=true;rw[wk];simp
theorem bF.jm {α:Type} {K:KP} {m:Nat} {R:α->List V->Prop} {l:List α} {v:V} (h:bF K m R l v):eB.jm v v=true:=by
 rcases h with ⟨_,rfl⟩ | ⟨b,off,c,cells,e,ro,rfl,u,_⟩
 ·rfl
 show(eB.beqP b b && Nat.beq off off && Nat.beq l.length l.length && eB.beqC c c)=true;have hp:eB.beqP b b=true:=Nat.beq_refl b
 have d:eB.beqC c c=true:=by
  rcases u with rfl | ⟨n,rfl,_⟩
  ·exact Nat.beq_refl m
  exact Nat.beq_refl n
 simp[hp,d]
theorem gQ:eB.beqL [] []=true:=rfl
theorem cK {v:V} {vs:List V} (h:eB.jm v v=true) (hs:eB.beqL vs vs=true):eB.beqL (v::vs) (v::vs)=true:=by
 grind [eB.beqL]
theorem gP {vs:List V} (h:eB.beqL vs vs=true):eB (.agg vs) (.agg vs)=true:=h
theorem hJ {c:Bool} {t':Bool->PT V} (d:ops[i]?=some o) (hw:bH ops t o=some true) (hv:dW P G (bp G t) O o.op= .val (.bool c) O) (hp:∀b,dP t n o.dst (.bool b)=some (t' b))
  (h1:c=true->cO P G ops n l (t' true) O Q) (h0:c=false->cO P G ops n l (t' false) O Q):cO P G ops n ((i,[])::l) t O Q:=by
 refine aj d hw hv (hp c) ?_;cases c with
 | true=>exact h1 Z
 | false=>exact h0 Z
theorem oV (u:D O K L) {ob:cN} {t':Nat->PT V} (d:ops[i]?=some o) (hw:bH ops t o=some true) (hv:dW P G (bp G t) O o.op= .val (.ptr O.next 0) (O.alloc ob)) (hp:∀b,dP t n o.dst (.ptr b 0)=some (t' b))
  (h:∀(O':N) (b:Nat),D O' K ((b,ob)::L)->cO P G ops n l (t' b) O' Q):cO P G ops n ((i,[])::l) t O Q:=
 aj d hw hv (hp _) (h _ _<|u.alloc ob)
theorem sf (u:D O K L) {ob:cN} {k c:Nat} {t':Nat->PT V} (d:ops[i]?=some o) (hw:bH ops t o=some true) (hv:dW P G (bp G t) O o.op= .val (.slice O.next 0 k (.known c)) (O.alloc ob)) (hp:∀b,dP t n o.dst (.slice b 0 k (.known c))=some (t' b))
  (h:∀(O':N) (b:Nat),D O' K ((b,ob)::L)->cO P G ops n l (t' b) O' Q):cO P G ops n ((i,[])::l) t O Q:=
 aj d hw hv (hp _) (h _ _<|u.alloc ob)
theorem gF {b:Nat} {ob ob':cN} {t':PT V} (u:D O K ((b,ob)::L)) (d:ops[i]?=some o) (hw:bH ops t o=some true) (hv:dW P G (bp G t) O o.op= .skip (O.setObj b ob')) (hp:dP t n o.dst unit=some t')
  (h:∀O',D O' K ((b,ob')::L)->(du P G ops t' O' rc=true/\cO P G ops n l t' O' Q)):cO P G ops n ((i,rc)::l) t O Q:=ou d hw hv hp (h _<|u.oI ob')
theorem k9 {b:Nat} {ob ob':cN} {x:Nat×cN} {t':PT V} (u:D O K (x::(b,ob)::L)) (d:ops[i]?=some o) (hw:bH ops t o=some true) (hv:dW P G (bp G t) O o.op= .skip (O.setObj b ob')) (hp:dP t n o.dst unit=some t')
  (h:∀O',D O' K (x::(b,ob')::L)->(du P G ops t' O' rc=true/\cO P G ops n l t' O' Q)):cO P G ops n ((i,rc)::l) t O Q:=ou d hw hv hp (h _<|u.LW ob')
theorem cg {α:Type} {m:Nat} {R:α->List V->Prop} {la:List α} {v:V} {ix:Nat} {x:α} {ty e:TypeId} {xo io:Operand} {k:IntKind} {t':V->PT V} (z:bF K m R la v) (hi:la[ix]?=some x) (d:ops[i]?=some o) (hw:bH ops t o=some true) (A:o.op= .indexAddr ty xo io)
  (B:P.underlying ty=some (.slice e)) (hj:(P.info? e).map (·.size)=some m) (hx:bp G t xo=some v) (u:bp G t io=some (.int k (.ofNat ix))) (hp:∀p,dP t n o.dst p=some (t' p))
  (h:∀p vs,gi K p vs->vs.length=m->R x vs->cO P G ops n l (t' p) O Q):cO P G ops n ((i,[])::l) t O Q:=by
 obtain⟨b,off,c,vs,rfl,w,h1,C,h3⟩:=z.at hi;refine aj d hw ?_ (hp _)<|h _ vs h1 C h3;rw[A];exact eI B hj hx u w
theorem dY {p:V} {vs:List V} {s:TypeId} {xo:Operand} {fi k:Nat} {t':V->PT V} (d:gi K p vs) (u:ops[i]?=some o) (hw:bH ops t o=some true) (w:o.op= .fieldAddr s xo fi) (hx:bp G t xo=some p) (hk:nw P s fi=some k) (hl:k<=vs.length) (hp:∀p,dP t n o.dst p=some (t' p))
  (h:∀p',gi K p' (vs.drop k)->cO P G ops n l (t' p') O Q):cO P G ops n ((i,[])::l) t O Q:=by
 obtain⟨b,off,cells,e,ro,rfl,z,h3,h4⟩:=d;refine aj u hw ?_ (hp _)<|h _ ⟨b,off+k,cells,e,ro,Z,z,by grind,?_⟩
 ·rw[w];exact aw hx hk
 grind [List.drop_take,List.drop_drop]
theorem fF {f:Nat} {args:List V} {t':V->PT V} {R:V->N->Prop} (b:ops[i]?=some o) (hw:bH ops t o=some true) (hv:dW P G (bp G t) O o.op= .enter f args O) (hp:∀v,dP t n o.dst v=some (t' v))
  (d:a8 P G f args O R) (h:∀v O',R v O'->(du P G ops (t' v) O' rc=true/\cO P G ops n l (t' v) O' Q)):cO P G ops n ((i,rc)::l) t O Q:=by
 refine BQ b hw hv<|d.mono fun v O' hr=>?_
 simp_all
theorem FT {f:Nat} {args:List V} {c:Bool} {t':V->PT V} (b:ops[i]?=some o) (hw:bH ops t o=some true) (hv:dW P G (bp G t) O o.op= .enter f args O) (hp:∀v,dP t n o.dst v=some (t' v))
  (d:a8 P G f args O fun v O'=>v= .bool c/\D O' K L) (h1:c=true->∀O',D O' K L->(du P G ops (t' (.bool true)) O' rc=true/\cO P G ops n l (t' (.bool true)) O' Q)) (h0:c=false->∀O',D O' K L->(du P G ops (t' (.bool false)) O' rc=true/\cO P G ops n l (t' (.bool false)) O' Q)):cO P G ops n ((i,rc)::l) t O Q:=
 fF b hw hv hp d fun v O' ⟨hv,ar⟩=>by
  subst hv;cases c with
  | true=>exact h1 Z O' ar
  | false=>exact h0 Z O' ar
theorem dJ {f:Nat} {args:List V} {u:V} {t':V->PT V} (b:ops[i]?=some o) (hw:bH ops t o=some true) (hv:dW P G (bp G t) O o.op= .enter f args O) (hp:∀v,dP t n o.dst v=some (t' v))
  (d:a8 P G f args O fun v O'=>v=u/\D O' K L) (h:∀O',D O' K L->(du P G ops (t' u) O' rc=true/\cO P G ops n l (t' u) O' Q)):cO P G ops n ((i,rc)::l) t O Q:=
 fF b hw hv hp d fun v O' ⟨hv,ar⟩=>by simp_all
theorem aQ {id:Nat} {l:List (Nat×List Nat)} (hf:tP P ops=true) (hl:jh P ops=l) (h:cO P G ops n l t O Q):Ev P G (.region id ops true) n t O Q:=by
 subst hl;exact wq hf h
end
end Go.Ev
namespace Go.Ev
variable [Env]
section
variable {P:Program} {G:Cx} {n:Nat} {t:PT V} {O:N} {Q:Ex->PT V->N->Prop} {ops:Array Oper} {o:Oper} {l:List Oper}
end
section
variable {P:Program} {G:Cx} {n:Nat} {O:N} {Q:Ex->PT V->N->Prop} {ops:Array Oper}
def EA (n:Nat) (t:PT V) (d:Option Nat) (v:Option V):Option (PT V):=match v with | some v=>dP t n d v | none=>none
def H7 (P:Program) (k:Bool) (o:BinOp) (ty:TypeId) (a b:Option V):Option V:=match a with | some a=>(match b with | some b=>sG P k o ty a b | none=>none) | none=>none
def Ct (c a b:Option V):Option V:=match c with | some (.bool q)=>if q then a else b | _=>none
def Nv (P:Program) (G:Cx) (t:PT V) (op:Op):Option V:=
 match op with
 | .move x=>bp G t x
 | .assign x=>bp G t x
 | .pick c a b=>Ct (bp G t c) (bp G t a) (bp G t b)
 | .binOp o ty x y _=>H7 P (yV x || yV y) o ty (bp G t x) (bp G t y)
 | .extract x i=>dj P (bp G t) (.extract x i)
 | .makeFunc x y z=>dj P (bp G t) (.makeFunc x y z)
 | .unOp x y z=>dj P (bp G t) (.unOp x y z)
 | .field x y z=>dj P (bp G t) (.field x y z)
 | _=>none
theorem wX {t:PT V} {op:Op} {v:V} (h:Nv P G t op=some v):dW P G (bp G t) O op= .val v O:=by
 unfold Nv at h;split at h
 ·exact an h
 ·exact al h
 ·unfold Ct at h;split at h
  ·rename_i q d;exact aD d h
  cases h
 ·unfold H7 at h;split at h
  ·rename_i a u;split at h
   ·rename_i b hb;exact az u hb h
   cases h
  cases h
 ·exact a9 Z h
 ·exact a9 Z h
 ·exact a9 Z h
 ·exact a9 Z h
 cases h
def mB (P:Program) (G:Cx) (ops:Array Oper) (n:Nat) (t:PT V) (o:Oper):Option (PT V):=
 match bH ops t o with
 | some w=>bif w then EA n t o.dst (Nv P G t o.op) else dP t n o.dst unit
 | none=>none
theorem tl {t t':PT V} {o:Oper} {l:List Oper} (h:mB P G ops n t o=some t') (hh:bK P G ops n l t' O Q):bK P G ops n (o::l) t O Q:=by
 unfold mB at h;split at h
 ·rename_i w hw;cases w with
  | true=>
   simp only[cond_true] at h;unfold EA at h;split at h
   ·rename_i v hv;exact Y hw (wX hv) h hh
   cases h
  | false=>exact ae hw h hh
 cases h
def quick (P:Program) (G:Cx) (ops:Array Oper) (n:Nat):Nat->List Oper->PT V->Option (List Oper×PT V)
 | 0,l,t=>some (l,t)
 | k+1,l,t=>match l with
  | o::l=>match mB P G ops n t o with
   | some t'=>quick P G ops n k l t'
   | none=>none
  | []=>none
theorem vQ (k:Nat) {l l':List Oper} {t t':PT V} (h:quick P G ops n k l t=some (l',t')) (hh:bK P G ops n l' t' O Q):bK P G ops n l t O Q:=by
 induction k generalizing l t with
 | zero=>simp only[quick,oJ_,Prod.mk.injEq] at h;obtain⟨rfl,rfl⟩:=h;exact hh
 | succ k ih=>
  unfold quick at h;split at h
  ·split at h
   ·rename_i t1 h1;exact tl h1<|ih h
   cases h
  cases h
def oE (P:Program) (G:Cx) (ops:Array Oper) (n:Nat):Nat->List (Nat×List Nat)->PT V->Option (List (Nat×List Nat)×PT V)
 | 0,l,t=>some (l,t)
 | k+1,l,t=>match l with
  | (i,[])::l=>match ops[i]? with
   | some o=>match mB P G ops n t o with
    | some t'=>oE P G ops n k l t'
    | none=>none
   | none=>none
  | _=>none
theorem tk {t t':PT V} {i:Nat} {o:Oper} {l:List (Nat×List Nat)} (hi:ops[i]?=some o) (h:mB P G ops n t o=some t') (hh:cO P G ops n l t' O Q):cO P G ops n ((i,[])::l) t O Q:=by
 unfold mB at h;split at h
 ·rename_i w hw;cases w with
  | true=>
   simp only[cond_true] at h;unfold EA at h;split at h
   ·rename_i v hv;exact aj hi hw (wX hv) h hh
   cases h
  | false=>exact au hi hw h hh
 cases h
theorem wQ (k:Nat) {l l':List (Nat×List Nat)} {t t':PT V} (h:oE P G ops n k l t=some (l',t')) (hh:cO P G ops n l' t' O Q):cO P G ops n l t O Q:=by
 induction k generalizing l t with
 | zero=>simp only[oE,oJ_,Prod.mk.injEq] at h;obtain⟨rfl,rfl⟩:=h;exact hh
 | succ k ih=>
  unfold oE at h;split at h
  ·split at h
   ·rename_i o b;split at h
    ·rename_i t1 h1;exact tk b h1<|ih h
    cases h
   cases h
  cases h
section
variable {ev:Operand->Option V} {K:KP} {L:Own}
theorem Ry (k:Nat) {s:TypeId} {x:Operand} {i:Nat} {b:Pos} {off:Nat} (hx:ev x=some (.ptr b off)) (hk:nw P s i=some k:=by kernel_rfl):dW P G ev O (.fieldAddr s x i)= .val (.ptr b (off+k)) O:=aw hx hk
theorem Rx {c:Call} {f:Operand} {g:Nat} {fi ca args:List V} (b:c.callee= .value f) (hf:ev f=some (.func g fi ca)) (d:lO ev c.args.toList=some args) (u:Ae P g=true:=by kernel_rfl):dW P G ev O (.call c)= .enter g (fi++(args++ca)) O:=aR b hf d u
theorem Rz {t:TypeId} {x:Operand} {b:Pos} {off:Nat} {cells:List V} {e:Nat} {ro:Bool} {v:V} (hx:ev x=some (.ptr b off)) (hb:O.m.get b=some (.row cells e ro)) (hv:nth cells off=some v) (d:dT P t=some none:=by kernel_rfl):dW P G ev O (.load t x)= .val v O:=ax hx hb d hv
theorem RB {t:TypeId} {x:Operand} {b:Pos} {off n:Nat} {cells:List V} {e:Nat} {ro:Bool} {vs:List V} (hx:ev x=some (.ptr b off)) (hb:O.m.get b=some (.row cells e ro)) (hv:(cells.drop off).take n=vs) (d:dT P t=some (some n):=by kernel_rfl) (hl:off+n<=cells.length:=by exact Nat.le_of_ble_eq_true Z):dW P G ev O (.load t x)= .val (.agg vs) O:=aO hx hb d hl hv
theorem RG {t:TypeId} {m:Nat} {x y:Operand} {b:Pos} {off:Nat} {v:V} {cs cells cells':List V} {e:Nat} (hx:ev x=some (.ptr b off)) (hy:ev y=some v) (u:df v=some cs) (hb:O.m.get b=some (.row cells e false)) (hl:cs.length=m) (d:cE cs=true) (w:dM cs cells off=cells')
  (hj:(P.info? t).map (·.size)=some m:=by kernel_rfl) (hle:off+m<=cells.length:=by exact Nat.le_of_ble_eq_true Z):dW P G ev O (.store t x y)= .skip (O.setObj b (.row cells' e false)):=aK hx hy u hb hj hl hle d w
theorem Rw {t:TypeId} {parts:Array (Nat×Operand)} {places:List (Nat×Nat)} {zero cs:List V} (hf:jM (nth places) ev parts.toList zero=some cs) (hp:placesOf P t=some places:=by kernel_rfl) (b:(fw P t).bind df=some zero:=by kernel_rfl) (hu:dT P t=some (some zero.length):=by kernel_rfl) (d:(structOf P t).isSome=true:=by kernel_rfl):dW P G ev O (.build t parts)= .val (.agg cs) O:=bI hp b hu hf d
theorem RD {e:TypeId} {cs:List V} (b:(fw P e).bind df=some cs:=by kernel_rfl) (d:tf P e=false:=by kernel_rfl):dW P G ev O (.alloc e)= .val (.ptr O.next 0) (O.alloc (.row cs e false)):=bS b d
theorem RC {α:Type} {m:Nat} {R:α->List V->Prop} {l:List α} {c:Call} {t e:TypeId} {x:Operand} {v:V} (b:bF K m R l v) (d:c.callee= .builtin .len) (u:c.argTypes[0]?=some t) (w:c.args.toList= [x]) (hx:ev x=some v) (hu:P.underlying t=some (.slice e):=by kernel_rfl):dW P G ev O (.call c)= .val (.int .i64 (.ofNat l.length)) O:=aZ b d u w hu hx
theorem RE {t:TypeId} {x:Operand} {p v:V} {vs:List V} (b:D O K L) (hp:gi K p vs) (hx:ev x=some p) (hv:vs[0]?=some v) (d:dT P t=some none:=by kernel_rfl):dW P G ev O (.load t x)= .val v O:=aT b hp hx d hv
theorem Rr {n:Nat} {t:PT V} {o:Oper} {l:List Oper} {α:Type} {m:Nat} {R:α->List V->Prop} {la:List α} {v:V} {i:Nat} {x:α} {ty e:TypeId} {xo io:Operand} {k:IntKind} {t':V->PT V} (d:bF K m R la v) (hi:la[i]?=some x) (hw:bH ops t o=some true) (u:o.op= .indexAddr ty xo io)
  (hx:bp G t xo=some v) (b:bp G t io=some (.int k (.ofNat i)))
  (h:∀p vs,gi K p vs->vs.length=m->R x vs->bK P G ops n l (t' p) O Q) (w:P.underlying ty=some (.slice e):=by kernel_rfl) (hj:(P.info? e).map (·.size)=some m:=by kernel_rfl) (hp:∀p,dP t n o.dst p=some (t' p):=by exact fun _=>Z):bK P G ops n (o::l) t O Q:=cy d hi hw u w hj hx b hp h
theorem Rt {n i:Nat} {t:PT V} {o:Oper} {l:List (Nat×List Nat)} {α:Type} {m:Nat} {R:α->List V->Prop} {la:List α} {v:V} {ix:Nat} {x:α} {ty e:TypeId} {xo io:Operand} {k:IntKind} {t':V->PT V} (u:bF K m R la v) (hi:la[ix]?=some x) (b:ops[i]?=some o) (hw:bH ops t o=some true) (w:o.op= .indexAddr ty xo io)
  (hx:bp G t xo=some v) (d:bp G t io=some (.int k (.ofNat ix)))
  (h:∀p vs,gi K p vs->vs.length=m->R x vs->cO P G ops n l (t' p) O Q) (z:P.underlying ty=some (.slice e):=by kernel_rfl) (hj:(P.info? e).map (·.size)=some m:=by kernel_rfl) (hp:∀p,dP t n o.dst p=some (t' p):=by exact fun _=>Z):cO P G ops n ((i,[])::l) t O Q:=cg u hi b hw w z hj hx d hp h
end
theorem a6.P6 {W:List Nat} {t t':PT V} {a b c d e f g i a' b' c' d' e' f' g' i':Nat} (hw:(Nat.blt a 256 && (Nat.blt b 256 && (Nat.blt c 256 && Nat.blt d 256)))=true) (u:(Nat.blt e 256 && (Nat.blt f 256 && (Nat.blt g 256 && Nat.blt i 256)))=true) (w:(Nat.blt a' 256 && (Nat.blt b' 256 && (Nat.blt c' 256 && Nat.blt d' 256)))=true) (z:(Nat.blt e' 256 && (Nat.blt f' 256 && (Nat.blt g' 256 && Nat.blt i' 256)))=true) (h:a6 (a::b::c::d::e::f::g::i::a'::b'::c'::d'::e'::f'::g'::i'::W) t t'):
  ∃A B C E F M R S T X u3 u4 u5 u6 u7 u8,a6 W ((((((((((((((((t.put A a).put B b).put C c).put E d).put F e).put M f).put R g).put S i).put T a').put X b').put u3 c').put u4 d').put u5 e').put u6 f').put u7 g').put u8 i') t':=by
 obtain⟨A,B,C,E,F,M,R,S,h⟩:=h.bQ hw u;obtain⟨T,X,u3,u4,u5,u6,u7,u8,h⟩:=h.bQ w z;exact⟨A,B,C,E,F,M,R,S,T,X,u3,u4,u5,u6,u7,u8,h⟩
theorem lb {a b:Nat} (h:Nat.ble a b=true):a<=b:=Nat.le_of_ble_eq_true h
theorem nT {b:Code} {t:PT V} {Q:Ex->PT V->N->Prop} (h:Ev P G b n t O Q):bK P G ops n [] t O (db P G n b Q):=ah (ad h)
theorem nS {id:Nat} {os:Array Oper} {b:Code} {t:PT V} {Q:Ex->PT V->N->Prop} (d:mg os.toList=false) (h:bK P G os n os.toList t O (db P G n b Q)):bK P G ops n [] t O (db P G n (.seq (.region id os false) b) Q):=ah (ad<|ak<|ai d h)
theorem RF {K:KP} {L:Own} {ev:Operand->Option V} {t:TypeId} {x:Operand} {p:V} {vs:List V} {n:Nat} (b:D O K L) (hp:gi K p vs) (hx:ev x=some p) (hv:vs.length=n) (d:dT P t=some (some n):=by kernel_rfl):dW P G ev O (.load t x)= .val (.agg vs) O:=bP b hp hx d hv
theorem kv {K:KP} {L:Own} {n:Nat} {t:PT V} {o:Oper} {l:List Oper} {f:Nat} {args:List V} {u:V} {t':V->PT V} (hw:bH ops t o=some true) (hv:dW P G (bp G t) O o.op= .enter f args O)
  (b:a8 P G f args O fun v O'=>v=u/\D O' K L) (h:∀O',D O' K L->bK P G ops n l (t' u) O' Q) (hp:∀v,dP t n o.dst v=some (t' v):=by exact fun _=>Z):bK P G ops n (o::l) t O Q:=bc hw hv hp b h
theorem kp {K:KP} {L:Own} {n:Nat} {t:PT V} {o:Oper} {l:List Oper} (d:D O K L) {ob:cN} {t':Nat->PT V} (hw:bH ops t o=some true) (hv:dW P G (bp G t) O o.op= .val (.ptr O.next 0) (O.alloc ob))
  (h:∀(O':N) (b:Nat),D O' K ((b,ob)::L)->bK P G ops n l (t' b) O' Q) (hp:∀b,dP t n o.dst (.ptr b 0)=some (t' b):=by exact fun _=>Z):bK P G ops n (o::l) t O Q:=bn d hw hv hp h
abbrev J:V:=.int .i64 0
theorem oP {W:List Nat} {t t':PT V} {w:Nat} {o:Option V} (hw:(W.elem w && Nat.blt w 256)=true) (h:a6 W t t'):a6 W t (t'.put o w):=h.put hw
theorem oR (W:List Nat) (t:PT V):a6 W t t:=.refl W t
theorem ct {α:Type} (a b:α):(bif true then a else b)=a:=rfl
theorem cf {α:Type} (a b:α):(bif false then a else b)=b:=rfl
theorem cI {a b:Int} (h:a=b):some (V.int .i64 a)=some (V.int .i64 b):=congrArg (fun z=>some (V.int .i64 z)) h
theorem cB {a b:Bool} (h:a=b):V.bool a=V.bool b:=congrArg V.bool h
theorem cJ {a b:Int} (h:a=b):V.int .i64 a=V.int .i64 b:=congrArg (V.int .i64) h
theorem D.g0 {K:KP} {L:Own} {b:Nat} {o:cN} (h:D O K ((b,o)::L)):O.m.get b=some o:=h.get 0 Z
theorem D.g1 {K:KP} {L:Own} {e:Nat×cN} {b:Nat} {o:cN} (h:D O K (e::(b,o)::L)):O.m.get b=some o:=h.get 1 Z
theorem ky {n:Nat} {t:PT V} {o:Oper} {l:List Oper} {c:Bool} {t':Bool->PT V} (hw:bH ops t o=some true) (hv:dW P G (bp G t) O o.op= .val (.bool c) O)
  (h1:c=true->bK P G ops n l (t' true) O Q) (h0:c=false->bK P G ops n l (t' false) O Q) (hp:∀b,dP t n o.dst (.bool b)=some (t' b):=by exact fun _=>Z):bK P G ops n (o::l) t O Q:=aP hw hv hp h1 h0
end
section
variable {P:Program} {G:Cx} {n:Nat} {t:PT V} {O:N} {Q:Ex->PT V->N->Prop}
def P1 (W:List Nat) (t:PT V) (I_:PT V->N->Prop) (e:Ex) (t':PT V) (O':N):Prop:=e= .normal/\a6 W t t'/\I_ t' O'
theorem zZ {a b:Code} (W:List Nat) (I_:PT V->N->Prop) (h1:Ev P G a n t O (P1 W t I_)) (d:∀t' O',a6 W t t'->I_ t' O'->Ev P G b n t' O' Q):Ev P G (.seq a b) n t O Q:=
 ak (h1.mono fun e t' O' h=>by obtain⟨rfl,h3,h4⟩:=h;exact d t' O' h3 h4)
end
end Go.Ev
namespace Go.Ev
variable [Env]
set_option maxRecDepth 4000
section
variable {P:Program} {G:Cx} {n:Nat} {O:N} {Q:Ex->PT V->N->Prop}
inductive Cf where
 | ops (os:Array Oper) (l:List Oper)
 | jh (os:Array Oper) (l:List (Nat×List Nat))
 | code (c:Code)
 | out (e:Ex)
inductive Fm where
 | seq (b:Code)
 | dN (id:Nat)
 | Pw (I_:Nat->PT V->N->Prop) (j:Nat)
def QS (P:Program) (G:Cx) (n:Nat) (Q:Ex->PT V->N->Prop):List Fm->Ex->PT V->N->Prop
 | []=>Q
 | .seq b::r=>db P G n b (QS P G n Q r)
 | .dN id::r=>iC id (QS P G n Q r)
 | .Pw I_ j::r=>wU I_ j (QS P G n Q r)
def At (P:Program) (G:Cx) (n:Nat) (O:N) (Q:Ex->PT V->N->Prop) (c:Cf) (fs:List Fm) (t:PT V):Prop:=
 match c with
 | .ops os l=>bK P G os n l t O (QS P G n Q fs)
 | .jh os l=>cO P G os n l t O (QS P G n Q fs)
 | .code c=>Ev P G c n t O (QS P G n Q fs)
 | .out e=>QS P G n Q fs e t O
def ET (P:Program) (G:Cx) (n:Nat) (c:Code) (fs:List Fm) (t:PT V):Option (Cf×List Fm×PT V):=
 match c with
 | .seq a b=>some (.code a,.seq b::fs,t)
 | .region _ os false=>bif mg os.toList then none else some (.ops os os.toList,fs,t)
 | .cond x a b=>match bp G t x with
  | some (.bool true)=>some (.code a,fs,t)
  | some (.bool false)=>some (.code b,fs,t)
  | _=>none
 | .block id b=>some (.code b,.dN id::fs,t)
 | .skip=>some (.out .normal,fs,t)
 | .label _=>some (.out .normal,fs,t)
 | .exit id=>some (.out (.exit id),fs,t)
 | .ret=>some (.out .ret,fs,t)
 | _=>none
def AK (P:Program) (G:Cx) (n:Nat) (c:Cf) (fs:List Fm) (t:PT V):Option (Cf×List Fm×PT V):=
 match c with
 | .ops _ []=>some (.out .normal,fs,t)
 | .ops os (o::l)=>match mB P G os n t o with
  | some t'=>some (.ops os l,fs,t')
  | none=>none
 | .jh _ []=>some (.out .normal,fs,t)
 | .jh os ((i,[])::l)=>match os[i]? with
  | some o=>match mB P G os n t o with
   | some t'=>some (.jh os l,fs,t')
   | none=>none
  | none=>none
 | .jh _ ((_,_::_)::_)=>none
 | .code c=>ET P G n c fs t
 | .out .normal=>match fs with
  | .seq b::r=>some (.code b,r,t)
  | .dN _::r=>some (.out .normal,r,t)
  | _=>none
 | .out (.exit j)=>match fs with
  | .seq _::r=>some (.out (.exit j),r,t)
  | .dN id::r=>bif Nat.beq j id then some (.out .normal,r,t) else some (.out (.exit j),r,t)
  | .Pw _ _::r=>some (.out (.exit j),r,t)
  | []=>none
 | .out .ret=>match fs with
  | .seq _::r=>some (.out .ret,r,t)
  | .dN _::r=>some (.out .ret,r,t)
  | .Pw _ _::r=>some (.out .ret,r,t)
  | []=>none
 | .out _=>none
theorem Hy {c:Code} {c':Cf} {fs fs':List Fm} {t t':PT V} (h:ET P G n c fs t=some (c',fs',t')) (hh:At P G n O Q c' fs' t'):Ev P G c n t O (QS P G n Q fs):=by
 unfold ET at h;split at h
 ·cases h;exact ak hh
 ·rename_i os;cases b:mg os.toList with
  | true=>rw[b] at h;cases h
  | false=>rw[b] at h;cases h;exact ai b hh
 ·split at h
  ·rename_i hx;cases h;exact aI hx hh
  ·rename_i hx;cases h;exact aN hx hh
  cases h
 ·cases h;exact aM hh
 ·cases h;exact aH hh
 ·cases h;exact Iy hh
 ·cases h;exact bg hh
 ·cases h;exact aC hh
 cases h
theorem zi {c c':Cf} {fs fs':List Fm} {t t':PT V} (h:AK P G n c fs t=some (c',fs',t')) (hh:At P G n O Q c' fs' t'):At P G n O Q c fs t:=by
 unfold AK at h;split at h
 ·cases h;exact ah hh
 ·split at h
  ·rename_i b;cases h;exact tl b hh
  cases h
 ·cases h;exact aV hh
 ·split at h
  ·rename_i d;split at h
   ·rename_i b;cases h;exact tk d b hh
   cases h
  cases h
 ·cases h
 ·exact Hy h hh
 ·split at h
  ·cases h;exact hh
  ·cases h;exact hh
  cases h
 ·rename_i j;split at h
  ·cases h;exact hh
  ·rename_i id r;cases hj:Nat.beq j id with
   | true=>
    rw[hj] at h;cases h;have:=nB hj;subst this;exact aS hh
   | false=>rw[hj] at h;cases h;exact lz hj hh
  ·cases h;exact hh
  cases h
 ·split at h
  ·cases h;exact hh
  ·cases h;exact hh
  ·cases h;exact hh
  cases h
 cases h
def hX (P:Program) (G:Cx) (n:Nat):Nat->Cf->List Fm->PT V->Option (Cf×List Fm×PT V)
 | 0,c,fs,t=>some (c,fs,t)
 | k+1,c,fs,t=>match AK P G n c fs t with
  | some (c',fs',t')=>hX P G n k c' fs' t'
  | none=>none
theorem dO:∀(k:Nat) {c c':Cf} {fs fs':List Fm} {t t':PT V},hX P G n k c fs t=some (c',fs',t')->At P G n O Q c' fs' t'->At P G n O Q c fs t
 | 0,_,_,_,_,_,_,h,hh=>by cases h;exact hh
 | k+1,_,_,_,_,_,_,h,hh=>by
  unfold hX at h;split at h
  ·rename_i b;exact zi b<|dO k h hh
  cases h
inductive Cd where
 | fa (s i k:Nat)
 | ag (t:Nat)
def lA (P:Program):List Cd->Bool
 | []=>true
 | .fa s i k::r=>match nw P s i with
  | some q=>bif Nat.beq q k then lA P r else false
  | none=>false
 | .ag t::r=>match dT P t with
  | some none=>lA P r
  | _=>false
def OF (P:Program) (G:Cx) (n:Nat) (os:Array Oper) (t:PT V) (o:Oper) (s i k:Nat) (x:Operand):Option (PT V):=
 match bH os t o with
 | some true=>match bp G t x with
  | some (.ptr b off)=>dP t n o.dst (.ptr b (off+k))
  | _=>none
 | _=>none
def OS (P:Program) (G:Cx) (n:Nat) (os:Array Oper) (t:PT V) (o:Oper) (x:Operand) (b':Nat) (cells:List V):Option (PT V×Nat):=
 match bH os t o with
 | some true=>match bp G t x with
  | some (.ptr b off)=>match nth cells off with
   | some v=>match dP t n o.dst v with
    | some t'=>some (t',b)
    | none=>none
   | none=>none
  | _=>none
 | _=>none
def Px (P:Program) (G:Cx) (n:Nat) (L:Own) (os:Array Oper) (t:PT V) (o:Oper) (hs:List Nat) (cs:List Cd) (e1 e2:List Nat):Option (PT V×List Nat×List Cd×List Nat×List Nat):=
 match o.op,hs with
 | .fieldAddr s x i,k::hs=>match OF P G n os t o s i k x with
  | some t'=>some (t',hs,.fa s i k::cs,e1,e2)
  | none=>none
 | .load ty x,k::hs=>match nth L k with
  | some (b',.row cells _ _)=>match OS P G n os t o x b' cells with
   | some (t',b)=>some (t',hs,.ag ty::cs,b::e1,b'::e2)
   | none=>none
  | _=>none
 | _,_=>none
def Rl (o:Oper):Bool:=match o.op with
 | .fieldAddr ..=>true
 | .load ..=>true
 | _=>false
def QP (os:Array Oper) (t:PT V) (o:Oper):Bool:=match bH os t o with
 | some true=>Rl o
 | _=>false
def OI (c:Cf) (t:PT V):Bool:=match c with
 | .ops os (o::_)=>QP os t o
 | .jh os ((i,[])::_)=>match os[i]? with
  | some o=>QP os t o
  | none=>false
 | _=>false
def J0 (P:Program) (G:Cx) (n:Nat) (L:Own) (c:Cf) (t:PT V) (hs:List Nat) (cs:List Cd) (e1 e2:List Nat):Option (Cf×PT V×List Nat×List Cd×List Nat×List Nat):=
 match c with
 | .ops os (o::l)=>match Px P G n L os t o hs cs e1 e2 with
  | some (t',hs,cs,e1,e2)=>some (.ops os l,t',hs,cs,e1,e2)
  | none=>none
 | .jh os ((i,[])::l)=>match os[i]? with
  | some o=>match Px P G n L os t o hs cs e1 e2 with
   | some (t',hs,cs,e1,e2)=>some (.jh os l,t',hs,cs,e1,e2)
   | none=>none
  | none=>none
 | _=>none
def te (P:Program) (G:Cx) (n:Nat) (L:Own):Nat->Cf->List Fm->PT V->List Nat->List Cd->List Nat->List Nat->Option (Cf×List Fm×PT V×List Cd×List Nat×List Nat)
 | 0,c,fs,t,_,cs,e1,e2=>some (c,fs,t,cs,e1,e2)
 | k+1,c,fs,t,hs,cs,e1,e2=>match OI c t with
  | true=>match J0 P G n L c t hs cs e1 e2 with
   | some (c',t',hs',cs',e1',e2')=>te P G n L k c' fs t' hs' cs' e1' e2'
   | none=>none
  | false=>match AK P G n c fs t with
   | some (c',fs',t')=>te P G n L k c' fs' t' hs cs e1 e2
   | none=>none
theorem KT {s i k:Nat} {r:List Cd} (h:lA P (.fa s i k::r)=true):nw P s i=some k/\lA P r=true:=by
 unfold lA at h;split at h
 ·rename_i q hq;cases hk:Nat.beq q k with
  | true=>rw[hk] at h;exact⟨by rw[hq,nB hk],h⟩
  | false=>rw[hk] at h;cases h
 cases h
theorem KS {t:Nat} {r:List Cd} (h:lA P (.ag t::r)=true):dT P t=some none/\lA P r=true:=by
 unfold lA at h;split at h
 ·rename_i b;exact⟨b,h⟩
 cases h
theorem Jr {K:KP} {L:Own} (ar:D O K L) {os:Array Oper} {t t':PT V} {o:Oper} {M w:List Nat} {cs cs':List Cd} {e1 C d u:List Nat} (h:Px P G n L os t o M cs e1 C=some (t',w,cs',d,u)) (E:lA P cs'=true) (he:d=u):
  (lA P cs=true/\e1=C)/\bH os t o=some true/\∃v,dW P G (bp G t) O o.op= .val v O/\dP t n o.dst v=some t':=by
 unfold Px at h;split at h
 ·rename_i s x i k z A;split at h
  ·rename_i R hf;cases h;obtain⟨h1,B⟩:=KT E;unfold OF at hf;split at hf
   ·rename_i hw;split at hf
    ·rename_i b off hx;exact⟨⟨B,he⟩,hw,_,by rw[A];exact aw hx h1,hf⟩
    cases hf
   cases hf
  cases h
 ·rename_i ty x k z A;split at h
  ·rename_i b' cells ee ro F;split at h
   ·rename_i R b hf;cases h;obtain⟨h1,B⟩:=KS E;have hb:b=b':=(List.cons.inj he).1;have he':=(List.cons.inj he).2;unfold OS at hf;split at hf
    ·rename_i hw;split at hf
     ·rename_i b2 off hx;split at hf
      ·rename_i v hv;split at hf
       ·rename_i t2 hp;cases hf;subst hb;rw[eU] at F;exact⟨⟨B,he'⟩,hw,v,by rw[A];exact ax hx (ar.get k F) h1 hv,hp⟩
       cases hf
      cases hf
     cases hf
    cases hf
   cases h
  cases h
 cases h
theorem J1 {K:KP} {L:Own} (ar:D O K L) {c c':Cf} {fs:List Fm} {t t':PT V} {z u:List Nat} {cs cs':List Cd} {e1 w b d:List Nat} (h:J0 P G n L c t z cs e1 w=some (c',t',u,cs',b,d)) (hk:lA P cs'=true) (he:b=d) (hh:At P G n O Q c' fs t'):(lA P cs=true/\e1=w)/\At P G n O Q c fs t:=by
 unfold J0 at h;split at h
 ·split at h
  ·rename_i hy;cases h;obtain⟨h1,hw,v,hv,hp⟩:=Jr ar hy hk he;exact⟨h1,Y hw hv hp hh⟩
  cases h
 ·split at h
  ·rename_i o A;split at h
   ·rename_i hy;cases h;obtain⟨h1,hw,v,hv,hp⟩:=Jr ar hy hk he;exact⟨h1,aj A hw hv hp hh⟩
   cases h
  cases h
 cases h
theorem iw {K:KP} {L:Own} (ar:D O K L):∀(k:Nat) {c c':Cf} {fs fs':List Fm} {t t':PT V} {b:List Nat} {cs cs':List Cd} {e1 w d u:List Nat},te P G n L k c fs t b cs e1 w=some (c',fs',t',cs',d,u)->lA P cs'=true->d=u->At P G n O Q c' fs' t'->(lA P cs=true/\e1=w)/\At P G n O Q c fs t
 | 0,_,_,_,_,_,_,_,_,_,_,_,_,_,h,hk,he,hh=>by cases h;exact⟨⟨hk,he⟩,hh⟩
 | k+1,_,_,_,_,_,_,_,_,_,_,_,_,_,h,hk,he,hh=>by
  unfold te at h;split at h
  ·split at h
   ·rename_i b;obtain⟨⟨h1,z⟩,h3⟩:=iw ar k h hk he hh;exact J1 ar b h1 z h3
   cases h
  split at h
  ·rename_i b;obtain⟨h1,h3⟩:=iw ar k h hk he hh;exact⟨h1,zi b h3⟩
  cases h
end
theorem a6.P5 {W:List Nat} {t t':PT V} {w:Nat} (hw:Nat.blt w 256=true) (h:a6 (w::W) t t'):a6 W (t.put (t'.get w) w) t':=by
 rw[vD] at hw;obtain⟨h1,b,h3⟩:=h;obtain⟨s,m,l⟩:=t;rw[PT.s9 _ _ _ _ hw,PT.pH _ hw];refine⟨h1,b,fun k hk d=>?_⟩;show _=jI (pY s w _) k;rw[mb _ _ _ _ hw hk];split
 ·rename_i e;rw[e]
 rename_i e;refine h3 k hk ?_;rw[List.elem_cons,d];have:(k == w)=false:=by simpa using e
 rw[this]
def rE (o:Nat->Option V):PT V->List Nat->PT V
 | t,[]=>t
 | t,a::r=>rE o (t.put (o a) a) r
def yi (o:Nat->Option V):List (Nat×V)->Nat->Option V
 | [],a=>o a
 | (k,v)::r,a=>bif Nat.beq a k then some v else yi o r a
theorem zl {o:Nat->Option V}:∀{ks:List (Nat×V)},(∀e∈ks,o e.1=some e.2)->yi o ks=o
 | [],_=>rfl
 | (k,v)::r,h=>funext fun a=>by
  show(bif Nat.beq a k then some v else yi o r a)=o a;cases hb:Nat.beq a k with
  | true=>rw[nB hb];exact(h (k,v) (.head _)).symm
  | false=>rw[zl fun e he=>h e (.tail _ he)];rfl
def okW (W:List Nat):Bool:=W.all fun k=>Nat.blt k 256
theorem a6.fn {t':PT V}:∀{W:List Nat} {t:PT V},okW W=true->a6 W t t'->t'=rE (fun k=>t'.get k) t W
 | [],_,_,h=>h.nil
 | a::r,t,hw,h=>by
  have hw:(Nat.blt a 256 && okW r)=true:=hw;rw[bA_] at hw;exact(a6.fn (W:=r) hw.2 (h.P5 hw.1):)
section
variable {W:List Nat} {t t':PT V}
theorem a6.qs {ks:List (Nat×V)} (h:a6 W t t') (hk:∀e∈ks,t'.get e.1=some e.2) (hw:okW W=true):∃o,t'=rE (yi o ks) t W:=
 ⟨fun k=>t'.get k,(a6.fn hw h).trans<|congrArg (fun o=>rE o t W) (zl hk).symm⟩
variable {k1 k2 k3 k4 k5 k6:Nat} {v1 v2 v3 v4 v5 v6:V} (h:a6 W t t')
include h
theorem a6.q0 (hw:okW W=true):∃o,t'=rE (yi o []) t W:=h.qs (ks:=[]) (fun e he=>by cases he) hw
theorem a6.q1 (h1:t'.get k1=some v1) (hw:okW W=true):∃o,t'=rE (yi o [(k1,v1)]) t W:=h.qs (fun e he=>by simp at he;subst he;exact h1) hw
theorem a6.q2 (h1:t'.get k1=some v1) (b:t'.get k2=some v2) (hw:okW W=true):∃o,t'=rE (yi o [(k1,v1),(k2,v2)]) t W:=h.qs (fun e he=>by simp at he;rcases he with rfl | rfl;exact h1;exact b) hw
theorem a6.q3 (h1:t'.get k1=some v1) (b:t'.get k2=some v2) (h3:t'.get k3=some v3) (hw:okW W=true):∃o,t'=rE (yi o [(k1,v1),(k2,v2),(k3,v3)]) t W:=h.qs (fun e he=>by simp at he;rcases he with rfl | rfl | rfl;exact h1;exact b;exact h3) hw
theorem a6.q4 (h1:t'.get k1=some v1) (b:t'.get k2=some v2) (h3:t'.get k3=some v3) (h4:t'.get k4=some v4) (hw:okW W=true):∃o,t'=rE (yi o [(k1,v1),(k2,v2),(k3,v3),(k4,v4)]) t W:=h.qs (fun e he=>by simp at he;rcases he with rfl | rfl | rfl | rfl;exact h1;exact b;exact h3;exact h4) hw
theorem a6.q5 (h1:t'.get k1=some v1) (b:t'.get k2=some v2) (h3:t'.get k3=some v3) (h4:t'.get k4=some v4) (h5:t'.get k5=some v5) (hw:okW W=true):∃o,t'=rE (yi o [(k1,v1),(k2,v2),(k3,v3),(k4,v4),(k5,v5)]) t W:=h.qs (fun e he=>by simp at he;rcases he with rfl | rfl | rfl | rfl | rfl;exact h1;exact b;exact h3;exact h4;exact h5) hw
end
theorem oF {W:List Nat} {t t':PT V} (h:a6 W t t':=by repeat (first | with_reducible exact a6.refl _ _ | refine a6.put Z ?_)):a6 W t t':=h
def MP (i:Nat) (t:PT V):List V->PT V
 | []=>t
 | a::r=>MP (i+1) (t.put (some a) i) r
theorem QO {P:Program} {G:Cx} (b:Plain G) {f:Nat} {fn:Func} {c:Code} {args:List V} {O:N} {R:V->N->Prop} (hf:P.funcs[f]?=some fn) (hb:fn.body=some c) (h:Ev P G c fn.ntmps (MP 0 .leaf args) O (zT P fn R))
  (d:ra fn.ntmps args=some (MP 0 .leaf args):=by rfl) (hk:Nat.beq f Lo=false:=by rfl) (hl:Ej f=false:=by rfl):a8 P G f args O R:=a7 b hf hb d h hk hl
def zp:List Nat->List (Nat×List Nat)
 | []=>[]
 | a::r=>(a,[])::zp r
def rg (a:Nat):Nat->List Nat
 | 0=>[]
 | n+1=>a::rg (a+1) n
end Go.Ev
namespace Go.Ev
variable [Env]
section
variable {P:Program} {G:Cx} {n:Nat} {O:N} {Q:Ex->PT V->N->Prop} {os os2:Array Oper} {l l2:List Oper} {lp lp2:List (Nat×List Nat)} {c c2:Code} {t t2:PT V} {K:KP} {L:Own} {hs:List Nat} {cs:List Cd} {e1 e2:List Nat}
theorem Qf {b:Code} (k:Nat) (h:hX P G n k (.code c) [] t=some (.code c2,[.seq b],t2)) (hh:Ev P G c2 n t2 O (db P G n b Q)):Ev P G c n t O Q:=(dO (Q:=Q) k h hh:)
theorem QR (k:Nat) (h:hX P G n k (.code c) [] t=some (.out .normal,[],t2)) (hh:Q .normal t2 O):Ev P G c n t O Q:=(dO (Q:=Q) k h hh:)
theorem Qg {b:Code} (k:Nat) (h:hX P G n k (.code c) [] t=some (.ops os2 l2,[.seq b],t2)) (hh:bK P G os2 n l2 t2 O (db P G n b Q)):Ev P G c n t O Q:=(dO (Q:=Q) k h hh:)
theorem Pz {b d:Code} (k:Nat) (h:hX P G n k (.code c) [] t=some (.ops os2 l2,[.seq b,.seq d],t2)) (hh:bK P G os2 n l2 t2 O (db P G n b<|db P G n d Q)):Ev P G c n t O Q:=(dO (Q:=Q) k h hh:)
theorem QT (k:Nat) (h:hX P G n k (.code c) [] t=some (.out .ret,[],t2)) (hh:Q .ret t2 O):Ev P G c n t O Q:=(dO (Q:=Q) k h hh:)
theorem O1 {b:Code} {d:Code} {u:Nat} (k:Nat) (h:hX P G n k (.code c) [.seq b] t=some (.code c2,[.dN u,.seq d],t2)) (hh:Ev P G c2 n t2 O (iC u<|db P G n d Q)):Ev P G c n t O (db P G n b Q):=(dO (Q:=Q) k h hh:)
theorem PA {b:Code} {d:Code} (k:Nat) (h:hX P G n k (.code c) [.seq b] t=some (.code c2,[.seq d],t2)) (hh:Ev P G c2 n t2 O (db P G n d Q)):Ev P G c n t O (db P G n b Q):=(dO (Q:=Q) k h hh:)
theorem Oi {b:Code} {d u:Code} {w:Nat} (k:Nat) (h:hX P G n k (.code c) [.seq b] t=some (.code c2,[.seq d,.dN w,.seq u],t2)) (hh:Ev P G c2 n t2 O (db P G n d<|iC w<|db P G n u Q)):Ev P G c n t O (db P G n b Q):=(dO (Q:=Q) k h hh:)
theorem PB {b:Code} {d:Code} (k:Nat) (h:hX P G n k (.code c) [.seq b] t=some (.ops os2 l2,[.seq d],t2)) (hh:bK P G os2 n l2 t2 O (db P G n d Q)):Ev P G c n t O (db P G n b Q):=(dO (Q:=Q) k h hh:)
theorem Oj {b:Code} {d u:Code} {w:Nat} (k:Nat) (h:hX P G n k (.code c) [.seq b] t=some (.ops os2 l2,[.seq d,.dN w,.seq u],t2)) (hh:bK P G os2 n l2 t2 O (db P G n d<|iC w<|db P G n u Q)):Ev P G c n t O (db P G n b Q):=(dO (Q:=Q) k h hh:)
theorem O2 {b:Code} {d u:Code} (k:Nat) (h:hX P G n k (.code c) [.seq b] t=some (.ops os2 l2,[.seq d,.seq u],t2)) (hh:bK P G os2 n l2 t2 O (db P G n d<|db P G n u Q)):Ev P G c n t O (db P G n b Q):=(dO (Q:=Q) k h hh:)
theorem Qh {b:Code} (k:Nat) (h:hX P G n k (.code c) [.seq b] t=some (.out .ret,[],t2)) (hh:Q .ret t2 O):Ev P G c n t O (db P G n b Q):=(dO (Q:=Q) k h hh:)
theorem PC {b:Code} {d:Nat} {bI1:Nat->PT V->N->Prop} {j:Nat} (k:Nat) (h:hX P G n k (.code c) [.seq b,.Pw bI1 d] t=some (.out (.exit j),[],t2)) (hh:Q (.exit j) t2 O):Ev P G c n t O (db P G n b<|wU bI1 d Q):=(dO (Q:=Q) k h hh:)
theorem QU (k:Nat) (h:hX P G n k (.ops os l) [] t=some (.out .normal,[],t2)) (hh:Q .normal t2 O):bK P G os n l t O Q:=(dO (Q:=Q) k h hh:)
theorem QV (k:Nat) (h:hX P G n k (.ops os l) [] t=some (.ops os2 l2,[],t2)) (hh:bK P G os2 n l2 t2 O Q):bK P G os n l t O Q:=(dO (Q:=Q) k h hh:)
theorem Qi {b:Code} (k:Nat) (h:hX P G n k (.ops os l) [.seq b] t=some (.code c2,[],t2)) (hh:Ev P G c2 n t2 O Q):bK P G os n l t O (db P G n b Q):=(dO (Q:=Q) k h hh:)
theorem PD {b:Code} {d:Nat} (k:Nat) (h:hX P G n k (.ops os l) [.seq b] t=some (.code c2,[.dN d],t2)) (hh:Ev P G c2 n t2 O (iC d Q)):bK P G os n l t O (db P G n b Q):=(dO (Q:=Q) k h hh:)
theorem O3 {b:Code} {d:Code} {u:Nat} (k:Nat) (h:hX P G n k (.ops os l) [.seq b] t=some (.code c2,[.dN u,.seq d],t2)) (hh:Ev P G c2 n t2 O (iC u<|db P G n d Q)):bK P G os n l t O (db P G n b Q):=(dO (Q:=Q) k h hh:)
theorem PE {b:Code} {d:Code} (k:Nat) (h:hX P G n k (.ops os l) [.seq b] t=some (.code c2,[.seq d],t2)) (hh:Ev P G c2 n t2 O (db P G n d Q)):bK P G os n l t O (db P G n b Q):=(dO (Q:=Q) k h hh:)
theorem Qj {b:Code} (k:Nat) (h:hX P G n k (.ops os l) [.seq b] t=some (.ops os2 l2,[],t2)) (hh:bK P G os2 n l2 t2 O Q):bK P G os n l t O (db P G n b Q):=(dO (Q:=Q) k h hh:)
theorem PF {b:Code} {d:Code} (k:Nat) (h:hX P G n k (.ops os l) [.seq b] t=some (.ops os2 l2,[.seq d],t2)) (hh:bK P G os2 n l2 t2 O (db P G n d Q)):bK P G os n l t O (db P G n b Q):=(dO (Q:=Q) k h hh:)
theorem Ok {b:Code} {d u:Code} {w:Nat} (k:Nat) (h:hX P G n k (.ops os l) [.seq b] t=some (.ops os2 l2,[.seq d,.dN w,.seq u],t2)) (hh:bK P G os2 n l2 t2 O (db P G n d<|iC w<|db P G n u Q)):bK P G os n l t O (db P G n b Q):=(dO (Q:=Q) k h hh:)
theorem O4 {b:Code} {d u:Code} (k:Nat) (h:hX P G n k (.ops os l) [.seq b] t=some (.ops os2 l2,[.seq d,.seq u],t2)) (hh:bK P G os2 n l2 t2 O (db P G n d<|db P G n u Q)):bK P G os n l t O (db P G n b Q):=(dO (Q:=Q) k h hh:)
theorem Qk {b:Code} (k:Nat) (h:hX P G n k (.ops os l) [.seq b] t=some (.out .ret,[],t2)) (hh:Q .ret t2 O):bK P G os n l t O (db P G n b Q):=(dO (Q:=Q) k h hh:)
theorem PG {b:Code} {d:Nat} (k:Nat) (h:hX P G n k (.ops os l) [.seq b,.dN d] t=some (.out .normal,[],t2)) (hh:Q .normal t2 O):bK P G os n l t O (db P G n b<|iC d Q):=(dO (Q:=Q) k h hh:)
theorem O5 {b d:Code} {u:Code} (k:Nat) (h:hX P G n k (.ops os l) [.seq b,.seq d] t=some (.ops os2 l2,[.seq u],t2)) (hh:bK P G os2 n l2 t2 O (db P G n u Q)):bK P G os n l t O (db P G n b<|db P G n d Q):=(dO (Q:=Q) k h hh:)
theorem PH {b d:Code} (k:Nat) (h:hX P G n k (.ops os l) [.seq b,.seq d] t=some (.out .ret,[],t2)) (hh:Q .ret t2 O):bK P G os n l t O (db P G n b<|db P G n d Q):=(dO (Q:=Q) k h hh:)
theorem PI {b d:Code} {j:Nat} (k:Nat) (h:hX P G n k (.ops os l) [.seq b,.seq d] t=some (.out (.exit j),[],t2)) (hh:Q (.exit j) t2 O):bK P G os n l t O (db P G n b<|db P G n d Q):=(dO (Q:=Q) k h hh:)
theorem QW (k:Nat) (h:hX P G n k (.jh os lp) [] t=some (.jh os2 lp2,[],t2)) (hh:cO P G os2 n lp2 t2 O Q):cO P G os n lp t O Q:=(dO (Q:=Q) k h hh:)
theorem Ql {b:Code} (k:Nat) (h:hX P G n k (.jh os lp) [.seq b] t=some (.code c2,[],t2)) (hh:Ev P G c2 n t2 O Q):cO P G os n lp t O (db P G n b Q):=(dO (Q:=Q) k h hh:)
theorem Qm {b:Code} (k:Nat) (h:hX P G n k (.jh os lp) [.seq b] t=some (.out .ret,[],t2)) (hh:Q .ret t2 O):cO P G os n lp t O (db P G n b Q):=(dO (Q:=Q) k h hh:)
theorem Qn {b:Code} (ar:D O K L) (k:Nat) (hi:List Nat) (h:te P G n L k (.code c) [] t hi [] [] []=some (.code c2,[.seq b],t2,cs,e1,e2)) (he:e1=e2) (hh:Ev P G c2 n t2 O (db P G n b Q)) (d:lA P cs=true:=by kernel_rfl):Ev P G c n t O Q:=((iw (Q:=Q) ar k h d he hh).2:)
theorem QX (ar:D O K L) (k:Nat) (hi:List Nat) (h:te P G n L k (.code c) [] t hi [] [] []=some (.ops os2 l2,[],t2,cs,e1,e2)) (he:e1=e2) (hh:bK P G os2 n l2 t2 O Q) (b:lA P cs=true:=by kernel_rfl):Ev P G c n t O Q:=((iw (Q:=Q) ar k h b he hh).2:)
theorem PJ {b d:Code} (ar:D O K L) (k:Nat) (hi:List Nat) (h:te P G n L k (.code c) [] t hi [] [] []=some (.ops os2 l2,[.seq b,.seq d],t2,cs,e1,e2)) (he:e1=e2) (hh:bK P G os2 n l2 t2 O (db P G n b<|db P G n d Q)) (u:lA P cs=true:=by kernel_rfl):Ev P G c n t O Q:=((iw (Q:=Q) ar k h u he hh).2:)
theorem PK {b:Code} {d:Code} (ar:D O K L) (k:Nat) (hi:List Nat) (h:te P G n L k (.code c) [.seq b] t hi [] [] []=some (.ops os2 l2,[.seq d],t2,cs,e1,e2)) (he:e1=e2) (hh:bK P G os2 n l2 t2 O (db P G n d Q)) (u:lA P cs=true:=by kernel_rfl):Ev P G c n t O (db P G n b Q):=((iw (Q:=Q) ar k h u he hh).2:)
theorem QY (ar:D O K L) (k:Nat) (hi:List Nat) (h:te P G n L k (.ops os l) [] t hi [] [] []=some (.ops os2 l2,[],t2,cs,e1,e2)) (he:e1=e2) (hh:bK P G os2 n l2 t2 O Q) (b:lA P cs=true:=by kernel_rfl):bK P G os n l t O Q:=((iw (Q:=Q) ar k h b he hh).2:)
theorem Qo {b:Code} (ar:D O K L) (k:Nat) (hi:List Nat) (h:te P G n L k (.ops os l) [.seq b] t hi [] [] []=some (.code c2,[],t2,cs,e1,e2)) (he:e1=e2) (hh:Ev P G c2 n t2 O Q) (d:lA P cs=true:=by kernel_rfl):bK P G os n l t O (db P G n b Q):=((iw (Q:=Q) ar k h d he hh).2:)
theorem PL {b:Code} {d:Code} (ar:D O K L) (k:Nat) (hi:List Nat) (h:te P G n L k (.ops os l) [.seq b] t hi [] [] []=some (.ops os2 l2,[.seq d],t2,cs,e1,e2)) (he:e1=e2) (hh:bK P G os2 n l2 t2 O (db P G n d Q)) (u:lA P cs=true:=by kernel_rfl):bK P G os n l t O (db P G n b Q):=((iw (Q:=Q) ar k h u he hh).2:)
theorem O6 {b:Code} {d u:Code} (ar:D O K L) (k:Nat) (hi:List Nat) (h:te P G n L k (.ops os l) [.seq b] t hi [] [] []=some (.ops os2 l2,[.seq d,.seq u],t2,cs,e1,e2)) (he:e1=e2) (hh:bK P G os2 n l2 t2 O (db P G n d<|db P G n u Q)) (w:lA P cs=true:=by kernel_rfl):bK P G os n l t O (db P G n b Q):=((iw (Q:=Q) ar k h w he hh).2:)
theorem Qp {b:Code} (ar:D O K L) (k:Nat) (hi:List Nat) (h:te P G n L k (.ops os l) [.seq b] t hi [] [] []=some (.out .ret,[],t2,cs,e1,e2)) (he:e1=e2) (hh:Q .ret t2 O) (d:lA P cs=true:=by kernel_rfl):bK P G os n l t O (db P G n b Q):=((iw (Q:=Q) ar k h d he hh).2:)
theorem QZ (ar:D O K L) (k:Nat) (hi:List Nat) (h:te P G n L k (.jh os lp) [] t hi [] [] []=some (.jh os2 lp2,[],t2,cs,e1,e2)) (he:e1=e2) (hh:cO P G os2 n lp2 t2 O Q) (b:lA P cs=true:=by kernel_rfl):cO P G os n lp t O Q:=((iw (Q:=Q) ar k h b he hh).2:)
end
inductive XE where
 | mk (op num:Int) (name:List Nat) (kids:List XE)
structure XI where
 kind:Int
 xq:Int
 loc:Int
 order:Int
 to:Int
 exprs:List XE
structure XC where
 br:Int
 ins:List XI
def jd (K:KP):Nat->XE->List V->Prop
 | 0,_,_=>False
 | k+1,.mk op num name kids,vs=>∃v,vs= [.int .i64 op,.int .i64 num,.str name,v]/\bF K 4 (jd K k) kids v
def iB (K:KP) (k:Nat) (x:XI) (vs:List V):Prop:=∃v,vs= [.int .i64 x.kind,.int .i64 x.xq,.int .i64 x.loc,.int .i64 x.order,.int .i64 x.to,v]/\bF K 4 (jd K k) x.exprs v
def lr (K:KP) (k:Nat) (x:XC) (vs:List V):Prop:=∃v,vs= [.int .i64 x.br,v]/\bF K 6 (iB K k) x.ins v
def XE.kids:XE->List XE
 | .mk _ _ _ k=>k
theorem jd.shape {K:KP} {k:Nat} {x:XE} {vs:List V} (h:jd K k x vs):∃op num name v,vs= [.int .i64 op,.int .i64 num,.str name,v]/\bF K 4 (jd K (k-1)) x.kids v:=by
 cases k with
 | zero=>cases x;exact h.elim
 | succ k=>
  obtain⟨op,num,name,kids⟩:=x;obtain⟨v,rfl,hk⟩:=h;exact⟨_,_,_,v,Z,hk⟩
open Classical in
def bY {α:Type} (a b:α):Bool:=decide (a=b)
theorem de {α:Type} {a b:α}:bY a b=true↔a=b:=by unfold bY;simp
theorem kT {α:Type} {a b:α}:bY a b=false↔a≠b:=by unfold bY;simp
theorem cC {c:Bool} (h:(bif c then false else true)=true):c=false:=by cases c<;>simp_all
theorem bl {c:Bool} (h:(bif c then false else true)=false):c=true:=by cases c<;>simp_all
theorem fc {α:Type} {l1 l2:List α} (h:H (.ofNat l1.length) (.ofNat l2.length)=false):bY l1 l2=false:=by
 rw[kT];rintro rfl;rw[dK] at h;simp at h
theorem dG {α β:Type} {l1:List α} {l2:List β} (h:H (.ofNat l1.length) (.ofNat l2.length)=true):l1.length=l2.length:=by
 rw[dK] at h
 grind
theorem fL {α:Type} {l1 l2:List α} {i:Nat} {x y:α} (hx:l1[i]?=some x) (hy:l2[i]?=some y) (h:bY x y=false):bY l1 l2=false:=by
 rw[kT] at h⊢
 grind
theorem ey {α:Type} {l1 l2:List α} {i:Nat} (hl:l1.length=l2.length) (hi:l1.length<=i) (h:∀k,k<i->l1[k]?=l2[k]?):bY l1 l2=true:=by
 rw[de];refine List.ext_getElem? fun k=>?_
 grind
theorem kj {α:Type} {l1 l2:List α} {i:Nat} {x y:α} (h:∀k,k<i->l1[k]?=l2[k]?) (hx:l1[i]?=some x) (hy:l2[i]?=some y) (hs:bY x y=true):∀k,k<i+1->l1[k]?=l2[k]?:=fun k hk=>by
 grind [de]
theorem bz {a b:Nat} (h:cq (.ofNat a) (.ofNat b)=false):b<=a:=by
 grind [eu]
theorem bk {a b:Nat} (h:cq (.ofNat a) (.ofNat b)=true):a<b:=by
 rw[eu,decide_eq_true_iff] at h
 simp_all
theorem cT {α:Type} {l:List α} {i:Nat} (h:i<l.length):∃x,l[i]?=some x:=⟨l[i],gC h⟩
def uG (f:XE->Int->Int):List XE->Int->Int
 | [],m=>m
 | x::r,m=>bif cq m 0 then m else uG f r (f x m)
def Mn (name:List Nat) (left:Int):Int:=wr .i64 (Int.sub (wr .i64<|Int.sub left 1)<|wr .i64<|Int.tdiv (.ofNat<|dn name) 20)
def B4:Nat->XE->Int->Int
 | 0,_,m=>m
 | k+1,.mk _ _ name kids,m=>uG (B4 k) kids (Mn name m)
def Ei (k:Nat) (x:XE) (most:Int):Bool:=bif cq (B4 k x most) 0 then false else true
def wR (k:Nat) (x:XI):Bool:=bif cq 4 (.ofNat x.exprs.length) then false else x.exprs.all fun e=>Ei k e 60
def sa (k:Nat) (most:Int) (x:XC):Bool:=bif cq most (.ofNat x.ins.length) then false else x.ins.all (wR k)
def sV (k:Nat) (most:Int) (l:List XC):Bool:=(l.take 6).all (sa k most) && (bif cq 6 (.ofNat l.length) then false else true)
theorem G2 {f:XE->Int->Int} {l:List XE} {i:Nat} {m:Int} (h:l.length<=i):uG f (l.drop i) m=m:=by rw[List.drop_eq_nil_of_le h];rfl
theorem G1 {f:XE->Int->Int} {l:List XE} {m:Int} (h:cq m 0=true):uG f l m=m:=by
 cases l with
 | nil=>rfl
 | cons x r=>show(bif cq m 0 then m else _)=m;rw[h];rfl
theorem Ea {f:XE->Int->Int} {l:List XE} {i:Nat} {m:Int} {x:XE} (hx:l[i]?=some x) (h:cq m 0=false):uG f (l.drop i) m=uG f (l.drop (i+1)) (f x m):=by
 have b:i<l.length:=(gA.1 hx).1;rw[List.drop_eq_getElem_cons b];have:l[i]=x:=(gA.1 hx).2;rw[this];show(bif cq m 0 then m else _)=_;rw[h];rfl
theorem lV {α:Type} {f:α->Bool} {l:List α} {i:Nat} {x:α} (hx:l[i]?=some x) (h:f x=false):l.all f=false:=by
 grind
theorem KJ {α:Type} {f:α->Bool} {l:List α} {i n:Nat} {x:α} (hx:l[i]?=some x) (hi:i<n) (h:f x=false):(l.take n).all f=false:=lV (i:=i) (by simp_all) h
theorem il {α:Type} {f:α->Bool} {l:List α} {i:Nat} {x:α} (b:(l.take i).all f=true) (hx:l[i]?=some x) (h:f x=true):(l.take (i+1)).all f=true:=by
 rw[List.take_add_one,hx,List.all_append,b];simp[h]
theorem fE {α:Type} {f:α->Bool} {l:List α} {i:Nat} (b:(l.take i).all f=true) (h:l.length<=i):l.all f=true:=by
 rw[tL_ h] at b;exact b
theorem Bs {α:Type} {f:α->Bool} {l:List α} {i n:Nat} (b:(l.take i).all f=true) (h:n<=i):(l.take n).all f=true:=by
 rw[aE_] at b⊢
 exact fun x hx=>b x (by
  obtain⟨j,hj⟩:=gO_ hx;rw[List.getElem?_take] at hj;split at hj
  ·exact gB_ (i:=j) (by grind)
  cases hj)
theorem jd.beq {K:KP} {k:Nat} {x:XE} {vs:List V} (h:jd K k x vs):eB (.agg vs) (.agg vs)=true:=by
 cases k with
 | zero=>cases x;exact h.elim
 | succ k=>
  obtain⟨op,num,name,kids⟩:=x;obtain⟨v,rfl,hk⟩:=h;exact gP<|cK (fA _ _)<|cK (fA _ _)<|cK (H5 _)<|cK hk.jm gQ
theorem iB.beq {K:KP} {k:Nat} {x:XI} {vs:List V} (h:iB K k x vs):eB (.agg vs) (.agg vs)=true:=by
 obtain⟨v,rfl,hk⟩:=h;exact gP<|cK (fA _ _)<|cK (fA _ _)<|cK (fA _ _)<|cK (fA _ _)<|cK (fA _ _)<|cK hk.jm gQ
theorem lr.beq {K:KP} {k:Nat} {x:XC} {vs:List V} (h:lr K k x vs):eB (.agg vs) (.agg vs)=true:=by
 obtain⟨v,rfl,hk⟩:=h;exact gP<|cK (fA _ _)<|cK hk.jm gQ
theorem dH {α:Type} {l:List α} {i:Nat} (h:cq (.ofNat i) (.ofNat l.length)=true):∃x,l[i]?=some x/\i<l.length:=by
 rw[eu,decide_eq_true_iff] at h
 simp_all
end Go.Ev
namespace Go.Ev
variable [Env]
def ek (n:Int) (vs:List V):Prop:=vs= [.int .i64 n]
def RL {α:Type} (K:KP) (m:Nat) (R:α->List V->Prop) (l:List α) (vs:List V):Prop:=∃v,vs= [v]/\bF K m R l v
theorem sL {a b:Int}:H a b=bY a b:=by rw[dK,Bool.eq_iff_iff,decide_eq_true_iff,de]
theorem Bv {α:Type} {f:α->Bool} {l:List α} {i:Nat} {x:α} (b:(l.take i).any f=false) (hx:l[i]?=some x) (h:f x=false):(l.take (i+1)).any f=false:=by
 rw[List.take_add_one,hx,List.any_append,b];simp[h]
theorem zH {α:Type} {f:α->Bool} {l:List α} {i:Nat} {x:α} (hx:l[i]?=some x) (h:f x=true):l.any f=true:=by
 grind
theorem qn {α:Type} {f:α->Bool} {l:List α} {i:Nat} (b:(l.take i).any f=false) (h:l.length<=i):l.any f=false:=by
 rw[tL_ h] at b;exact b
def DL (xs ys:List Int):Bool:=
 List.rec (motive:=fun _=>List Int->Bool) (fun ys=>List.rec (motive:=fun _=>Bool) true (fun _ _ _=>false) ys)
  (fun x _ ih ys=>List.rec (motive:=fun _=>Bool) false (fun y r _=>bif H x y then ih r else false) ys) xs ys
theorem Fx:∀(xs ys:List Int),DL xs ys=bY xs ys
 | [],[]=>by rw[show DL [] []=true from Z,eq_comm,de]
 | [],_::_=>by rw[show DL [] (_::_)=false from Z,eq_comm,kT];simp
 | _::_,[]=>by rw[show DL (_::_) []=false from Z,eq_comm,kT];simp
 | x::xs,y::ys=>by
  show(bif H x y then DL xs ys else false)=_;rw[Fx xs ys,dK,Bool.eq_iff_iff,de]
  grind [de]
def ints (xs:List Int):List V:=xs.map (.int .i64)
def IW:Option TypeDesc->Bool
 | some (.int .i64)=>true
 | _=>false
def tQ (P:Program) (fs:List Field):Nat->Bool:=List.rec (motive:=fun _=>Nat->Bool) (fun _=>true) (fun f _ ih k=>IW (P.underlying f.type) && (Nat.beq f.offset k && ih (k+1))) fs
def ja (P:Program) (t:TypeId) (n:Nat):Bool:=
 match structOf P t with
 | some fs=>tQ P fs.toList 0 && (Nat.beq fs.toList.length n && (!P.eqGuardType P.depth t && (!P.stoodInHeld t && lH fs.toList)))
 | none=>false
theorem rm {P:Program}:∀(fs:List Field) (k:Nat) (xs ys:List Int),tQ P fs k=true->xs.length=k+fs.length->ys.length=k+fs.length->eqFields P fs (ints xs) (ints ys)=some (DL (xs.drop k)<|ys.drop k)
 | [],k,xs,ys,_,h1,d=>by
  rw[List.drop_eq_nil_of_le (by simp at h1;omega),List.drop_eq_nil_of_le (by simp at d;omega)];rfl
 | f::fs,k,xs,ys,h,h1,d=>by
  have h':(IW (P.underlying f.type) && (Nat.beq f.offset k && tQ P fs (k+1)))=true:=h;simp only[bA_] at h';obtain⟨e1,u,w⟩:=h';have hk:f.offset=k:=nB u
  have hu:P.underlying f.type=some (.int .i64):=by
   grind [IW]
  have l1:k<xs.length:=by simp at h1;omega
  have l2:k<ys.length:=by simp at d;omega
  have n1:nth (ints xs) f.offset=some (.int .i64 xs[k]):=by grind [eU,ints]
  have z:nth (ints ys) f.offset=some (.int .i64 ys[k]):=by grind [eU,ints]
  have ih:=rm fs (k+1) xs ys w (by simp at h1⊢;omega) (by simp at d⊢;omega)
  show(match P.underlying f.type,nth (ints xs) f.offset,nth (ints ys) f.offset with
   | some .bool,some (.bool a),some (.bool b)=>bif (bif a then b else(bif b then false else true)) then eqFields P fs (ints xs) (ints ys) else some false
   | some (.int _),some (.int j a),some (.int k b)=>bif sy j k then(bif H a b then eqFields P fs (ints xs) (ints ys) else some false) else none
   | some .string,some (.str a),some (.str b)=>bif uE a b then eqFields P fs (ints xs) (ints ys) else some false
   | some (.struct gs),_,_=>_
   | some (.array m e),_,_=>_
   | _,_,_=>none)=_
  rw[hu,n1,z,List.drop_eq_getElem_cons l1,List.drop_eq_getElem_cons l2,ih];show(bif H xs[k] ys[k] then _ else some false)=some (bif H xs[k] ys[k] then DL (xs.drop (k+1)) (ys.drop (k+1)) else false)
  grind
theorem wi {P:Program} {t:TypeId} {n:Nat} {xs ys:List Int} (h:ja P t n=true) (hx:xs.length=n) (hy:ys.length=n):DK P t (.agg<|ints xs) (.agg<|ints ys)=some (bY xs ys):=by
 unfold ja at h;split at h
 ·rename_i fs b;simp only[bA_,Bool.not_eq_true'] at h;obtain⟨h1,d,h3,h4,h5⟩:=h;have hn:fs.toList.length=n:=nB d;unfold DK;dsimp only;rw[b];dsimp only;rw[h3,h4,h5];simp only[Bool.not_true,Bool.or_false,cond_false];rw[rm fs.toList 0 xs ys h1 oM oM,List.drop_zero,List.drop_zero,Fx]
 cases h
section
variable {P:Program} {G:Cx} {ev:Operand->Option V} {O:N}
theorem zx {t r:TypeId} {x y:Operand} {n:Nat} {ca cb:List Int} (h:ja P t n=true) (b:ca.length=n) (hb:cb.length=n) (hx:ev x=some (.agg<|ints ca)) (hy:ev y=some (.agg<|ints cb)):dW P G ev O (.binOp .eql t x y r)= .val (.bool<|bY ca cb) O:=by
 refine az hx hy ?_;show mP P .eql t _ _=_;unfold mP;dsimp only;rw[wi h b hb]
theorem Da {t r:TypeId} {x y:Operand} {n:Nat} {ca cb:List Int} (h:ja P t n=true) (b:ca.length=n) (hb:cb.length=n) (hx:ev x=some (.agg<|ints ca)) (hy:ev y=some (.agg<|ints cb)):dW P G ev O (.binOp .neq t x y r)= .val (.bool (bif bY ca cb then false else true)) O:=by
 refine az hx hy ?_;show mP P .neq t _ _=_;unfold mP;dsimp only;rw[wi h b hb]
end
structure bT where
 cH:Int
 index:Int
structure bW where
 kind:Int
 loc:Int
 order:Int
 read:Int
 write:Int
structure XG where
 init:List Int
 threads:List (List bW)
 from_:List (List bT)
 order:List (List bT)
def bT.ints (x:bT):List Int:=[x.cH,x.index]
def bW.ints (x:bW):List Int:=[x.kind,x.loc,x.order,x.read,x.write]
theorem bT.same {x y:bT}:bY x.ints y.ints=bY x y:=by
 rw[Bool.eq_iff_iff,de,de];cases x;cases y;simp[bT.ints]
theorem bW.same {x y:bW}:bY x.ints y.ints=bY x y:=by
 rw[Bool.eq_iff_iff,de,de];cases x;cases y;simp[bW.ints]
def ji (x:bT) (vs:List V):Prop:=vs=ints x.ints
def kJ (x:bW) (vs:List V):Prop:=vs=ints x.ints
structure eW (K:KP) (g:XG) (a b c d:V):Prop where
 init:bF K 1 ek g.init a
 threads:bF K 1 (RL K 5 kJ) g.threads b
 from_:bF K 1 (RL K 2 ji) g.from_ c
 order:bF K 1 (RL K 2 ji) g.order d
theorem mV {a b:XG}:bY a b=(bY a.init b.init && (bY a.threads b.threads && (bY a.from_ b.from_ && bY a.order b.order))):=by
 rw[Bool.eq_iff_iff,de];cases a;cases b;simp[de]
def cD (e:bW):Bool:=bif H e.kind 1 then true else H e.kind 3
def bd (e:bW):Bool:=bif H e.kind 2 then true else H e.kind 3
def bf (b:Bool):Bool:=bif b then false else true
def bm (e:bW) (n:Int):Bool:=
 bif cq e.kind 1 then false else bif cq 4 e.kind then false else bif cq e.order 1 then false else bif cq 6 e.order then false else
 bif (bif (!cD e) then bf (H e.read 0) else false) then false else bif (bif (!bd e) then bf (H e.write 0) else false) then false else
 bif H e.kind 4 then H e.loc 0 else bif bf (cq e.loc 0) then cq e.loc n else false
def cZ (g:XG) (id:bT):Option bW:=
 match id.cH,id.index with
 | .ofNat 0,.ofNat i=>(g.init[i]?).map fun v=>⟨2,i,1,0,v⟩
 | .ofNat (t+1),.ofNat i=>(g.threads[t]?).bind (·[i]?)
 | _,_=>none
def mE (x:Option bW):bW:=x.getD ⟨0,0,0,0,0⟩
theorem tO {g:XG} {th ix:Int} (h:cq th 0=true):cZ g ⟨th,ix⟩=none:=by
 rw[eu,decide_eq_true_iff] at h;cases th with
 | ofNat t=>grind
 | negSucc t=>rfl
theorem qu {g:XG} {th ix:Int} (h:cq ix 0=true):cZ g ⟨th,ix⟩=none:=by
 rw[eu,decide_eq_true_iff] at h;cases ix with
 | ofNat t=>grind
 | negSucc t=>cases th with
  | ofNat n=>cases n<;>rfl
  | negSucc n=>rfl
theorem BP {g:XG} {th ix:Int} (h:cq (.ofNat g.threads.length) th=true):cZ g ⟨th,ix⟩=none:=by
 rw[eu,decide_eq_true_iff] at h;cases th with
 | negSucc t=>rfl
 | ofNat t=>
  have h:g.threads.length<t:=Int.ofNat_lt.1 h;cases t with
  | zero=>omega
  | succ t=>
   cases ix with
   | negSucc n=>rfl
   | ofNat n=>
    show(g.threads[t]?).bind _=none
    grind
theorem iF {n:Int} (h:cq n 0=false):∃m:Nat,n= .ofNat m:=by
 rw[eu,decide_eq_false_iff_not] at h;cases n with
 | ofNat m=>exact⟨m,Z⟩
 | negSucc m=>omega
theorem Gd {n:Nat} (h:H (.ofNat n) 0=false):∃m:Nat,n=m+1:=by
 cases n with
 | zero=>cases h
 | succ m=>exact⟨m,Z⟩
theorem fv {t:Nat} (h:t<=9223372036854775807):wr .i64 (Int.sub (.ofNat (t+1)) 1)= .ofNat t:=by
 have e:Int.sub (.ofNat (t+1)) 1= .ofNat t:=by
  grind
 rw[e];show(bif Nat.ble t 9223372036854775807 then _ else _)=_
 grind [nE_]
theorem ml {a b:Nat} (h:cq (.ofNat a) (.ofNat b)=false):b<=a:=bz h
theorem nD {a b:Nat} (h:(bif cq (.ofNat a) (.ofNat b) then false else true)=false):a<b:=bk (bl h)
theorem nA {a b:Nat} (h:(bif cq (.ofNat a) (.ofNat b) then false else true)=true):b<=a:=bz (cC h)
section
variable {P:Program} {G:Cx} {n:Nat} {t:PT V} {O:N} {Q:Ex->PT V->N->Prop}
theorem AB {fn:Func} {j k ty b m e:Nat} {ro:Bool} {cells:List V} {v:V} (u:fn.results.toList= [.cell j ty,.tmp k]) (h1:t.get j=some (.ptr b 0)) (hm:O.m.get b=some (.row cells e ro)) (w:dT P ty=some (some m)) (d:cells.length=m) (z:t.get k=some v):eX P fn t O=some (.tuple [.agg cells,v]):=by
 unfold eX;rw[u]
 have e1:fG P t O (.cell j ty)=some (V.agg cells):=by
  show(match t.get (posOf j) with
   | some (.ptr b off)=>match O.m.get b with
    | some (.row cells _ _)=>match dT P ty with
     | some (some n)=>bif Nat.ble (off+n) (dn cells) then some (V.agg<|takeN (dU cells off) n) else none
     | some none=>nth cells off
     | none=>none
    | _=>none
   | _=>none)=_
  rw[show t.get (posOf j)=some (.ptr b 0) from h1];dsimp only;rw[hm];dsimp only;rw[w];dsimp only;rw[bN,d,nA_,show Nat.ble m m=true by simp_all,dp,dQ,List.drop_zero,<-d,List.take_length];rfl
 have A:fG P t O (.tmp k)=some v:=z
 have:cQ (fG P t O) [.cell j ty,.tmp k]=some [V.agg cells,v]:=by
  unfold cQ;simp only[e1,A]
 rw[this]
theorem bC {fn:Func} {R:V->N->Prop} {j k ty b m e:Nat} {ro:Bool} {cells:List V} {v:V} (d:fn.results.toList= [.cell j ty,.tmp k]) (h1:t.get j=some (.ptr b 0)) (hm:O.m.get b=some (.row cells e ro)) (u:dT P ty=some (some m)) (w:cells.length=m) (z:t.get k=some v) (A:R (.tuple [.agg cells,v]) O):zT P fn R .ret t O:=
 ⟨.inr Z,_,AB d h1 hm u w z,A⟩
end
end Go.Ev
namespace Go.Ev
variable [Env]
def cF (g:XG) (id from_:bT):Bool:=
 bif !cD (mE<|cZ g id) then bY [from_.cH,from_.index] [0,0] else
 bif (cZ g from_).isSome then
  bif (bif bY [from_.cH,from_.index] [id.cH,id.index] then false else true) then
   bif bd (mE<|cZ g from_) then
    bif H (mE<|cZ g from_).loc (mE<|cZ g id).loc then H (mE<|cZ g from_).write (mE<|cZ g id).read else false
   else false
  else false
 else false
def eP (g:XG):Bool:=bif cq 4 (.ofNat g.threads.length) then true else bif cq 6 (.ofNat g.init.length) then true else g.threads.any fun l=>cq 14 (.ofNat l.length)
abbrev LM:=List (List Int×Int)
inductive fp (n:Nat):List fC->LM->Prop
 | nil:fp n [] []
 | cons {e:fC} {k:List Int} {v:Int} {es:List fC} {m:LM}:k.length=n->e.key= .agg (ints k)->e.val= .int .i64 v->fp n es m->fp n (e::es) ((k,v)::m)
def pL:LM->List Int->Nat->Option (Nat×Int)
 | [],_,_=>none
 | (k',v)::m,k,i=>bif bY k k' then some (i,v) else pL m k (i+1)
def fO (m:LM) (k:List Int):Option Int:=(pL m k 0).map (·.2)
def pM (m:LM) (k:List Int) (v:Int):LM:=
 match pL m k 0 with
 | some (i,_)=>m.set i (k,v)
 | none=>m++[(k,v)]
def lj (m:LM) (k:List Int):LM:=
 match pL m k 0 with
 | some (i,_)=>m.eraseIdx i
 | none=>m
theorem fp.length {n:Nat} {es:List fC} {m:LM} (h:fp n es m):es.length=m.length:=by
 induction h with
 | nil=>rfl
 | cons _ _ _ _ ih=>simp[ih]
theorem fp.set {n:Nat} {es:List fC} {m:LM} (h:fp n es m) {e:fC} {k:List Int} {v:Int} (h1:k.length=n) (u:e.key= .agg (ints k)) (h3:e.val= .int .i64 v):∀i,fp n (es.set i e) (m.set i (k,v)):=by
 induction h with
 | nil=>intro i;exact .nil
 | cons a b c d ih=>
  intro i;cases i with
  | zero=>exact .cons h1 u h3 d
  | succ i=>exact .cons a b c (ih i)
theorem fp.snoc {n:Nat} {es:List fC} {m:LM} (h:fp n es m) {e:fC} {k:List Int} {v:Int} (h1:k.length=n) (u:e.key= .agg (ints k)) (h3:e.val= .int .i64 v):fp n (es++[e]) (m++[(k,v)]):=by
 induction h with
 | nil=>exact .cons h1 u h3 .nil
 | cons a b c d ih=>exact .cons a b c ih
theorem fp.erase {n:Nat} {es:List fC} {m:LM} (h:fp n es m):∀i,fp n (es.eraseIdx i) (m.eraseIdx i):=by
 induction h with
 | nil=>intro i;exact .nil
 | cons a b c d ih=>
  intro i;cases i with
  | zero=>exact d
  | succ i=>exact .cons a b c (ih i)
theorem fp.at {n:Nat} {es:List fC} {m:LM} (h:fp n es m):∀{i:Nat} {k:List Int} {v:Int},m[i]?=some (k,v)->∃e,es[i]?=some e/\k.length=n/\e.key= .agg (ints k):=by
 induction h with
 | nil=>simp_all
 | cons a b c d ih=>
  grind
theorem wc:∀(es:List fC) (i:Nat),wb es i=es.eraseIdx i
 | [],_=>rfl
 | _::_,0=>rfl
 | e::es,i+1=>by
  show e::wb es i=e::es.eraseIdx i;rw[wc es i]
theorem qE:∀{m:LM} {k:List Int} {i j:Nat} {v:Int},pL m k i=some (j,v)->i<=j/\m[j-i]?=some (k,v)
 | [],k,i,j,v,h=>by cases h
 | (k',v')::m,k,i,j,v,h=>by
  have h':(bif bY k k' then some (i,v') else pL m k (i+1))=some (j,v):=h;cases b:bY k k' with
  | true=>
   grind [de]
  | false=>
   rw[b] at h';obtain⟨h1,h2⟩:=qE h'
   grind
theorem rh:∀(xs:List Int),pk (ints xs) (ints xs)=true
 | []=>rfl
 | x::xs=>by
  have e:r4 (.int .i64 x) (.int .i64 x)=some true:=by
   show(bif sy .i64 .i64 then some (H x x) else none)=some true;rw[dK];simp[sy]
  show(match r4 (.int .i64 x) (.int .i64 x) with | some true=>pk (ints xs) (ints xs) | _=>false)=true;rw[e];exact rh xs
section
variable {P:Program}
theorem wx {t:TypeId} {fs:Array Field} {n:Nat} (hu:P.underlying t=some (.struct fs)) (u:ja P t n=true) {k:List Int} (hk:k.length=n) {es:List fC} {m:LM} (h:fp n es m):∀i,oT P t (.agg<|ints k) es i=some ((pL m k i).map fun x=>(x.1,.int .i64 x.2)):=by
 induction h with
 | nil=>intro i;rfl
 | @cons e k' v es m a b c d ih=>
  intro i
  have hq:oU P t (.agg<|ints k) e.key=some (bY k k'):=by
   unfold oU;rw[hu,b];exact wi u hk a
  show(match oU P t (.agg<|ints k) e.key with
   | some true=>some (some (i,e.val))
   | some false=>oT P t (.agg<|ints k) es (i+1)
   | none=>none)=some (Option.map _ (bif bY k k' then some (i,v) else pL m k (i+1)))
  grind
structure Dg (P:Program) (t kt et:TypeId) (n:Nat):Prop where
 ty:P.underlying t=some (.map kt et)
 plain:plainKey P kt=true
 ints:ja P kt n=true
 zero:fw P et=some (.int .i64 0)
 shape:∀k:List Int,k.length=n->mi P kt (.agg<|Go.Ev.ints k)=true
theorem lg {t:TypeId} {n:Nat} (h:ja P t n=true):∃fs,P.underlying t=some (.struct fs):=by
 grind [ja,structOf,nW]
variable {G:Cx} {ev:Operand->Option V} {O:N}
theorem Ky {t kt et:TypeId} {n:Nat} (hT:Dg P t kt et n) {b:Nat} {es:List fC} {ck:Nat} {m:LM} (hm:fp n es m) (hb:O.m.get b=some (.map es ck)) {mo ko xo:Operand} {k:List Int} {v:Int} (hk:k.length=n) (h1:ev mo=some (.map b)) (u:ev ko=some (.agg<|ints k)) (h3:ev xo=some (.int .i64 v)):
  ∃es' ck',dW P G ev O (.mapUpdate t mo ko xo)= .skip (O.setObj b (.map es' ck'))/\fp n es' (pM m k v):=by
 obtain⟨fs,hu⟩:=lg hT.ints;have hf:=wx hu hT.ints hk hm 0
 have key:∃es' ck',mZ P O t (.map b) (.agg<|ints k) (.int .i64 v)=some (O.setObj b (.map es' ck'))/\fp n es' (pM m k v):=by
  unfold mZ pM;rw[hT.ty];dsimp only;rw[hb];dsimp only;rw[hT.plain,hT.shape k hk];simp only[Bool.and_self,cond_true];rw[hf];cases hl:pL m k 0 with
  | none=>exact⟨_,_,Z,by rw[dX];exact hm.snoc hk Z Z⟩
  | some x=>
   obtain⟨i,v0⟩:=x;have hi:=(qE hl).2;rw[Nat.sub_zero] at hi;obtain⟨e,he,_,d⟩:=hm.at hi;simp only[Option.map_some];rw[eU,he];dsimp only;have w:sameKey e.key (.agg<|ints k)=true:=by rw[d];exact rh k
   rw[w];exact⟨_,_,Z,by unfold AG;rw[uf];exact hm.set (e:={key:=.agg<|ints k,val:=.int .i64 v,born:=e.born}) hk Z Z i⟩
 obtain⟨es',ck',h4,h5⟩:=key;refine⟨es',ck',kF Z ?_,h5⟩;simp only[gf,h1,u,h3,h4]
theorem Kx {t kt et:TypeId} {n:Nat} (hT:Dg P t kt et n) {b:Nat} {es:List fC} {ck:Nat} {m:LM} (hm:fp n es m) (hb:O.m.get b=some (.map es ck)) {mo ko:Operand} {k:List Int} (hk:k.length=n) (h1:ev mo=some (.map b)) (d:ev ko=some (.agg<|ints k)):
  dW P G ev O (.lookup t mo ko true)= .val (.tuple [.int .i64 ((fO m k).getD 0),.bool (fO m k).isSome]) O:=by
 obtain⟨fs,hu⟩:=lg hT.ints;have hf:=wx hu hT.ints hk hm 0;refine Bc Z ?_;simp only[gp,hT.ty,d,h1,hb,hT.plain,hT.shape k hk,Bool.and_self,cond_true,hf,hT.zero];unfold fO;cases pL m k 0 with
 | none=>rfl
 | some x=>rfl
theorem Kv {c:Call} {t kt et:TypeId} {n:Nat} (hT:Dg P t kt et n) {b:Nat} {es:List fC} {ck:Nat} {m:LM} (hm:fp n es m) (hb:O.m.get b=some (.map es ck)) {mo ko:Operand} {k:List Int} (hk:k.length=n) (d:c.callee= .builtin .delete) (u:c.argTypes[0]?=some t) (w:c.args.toList= [mo,ko]) (h1:ev mo=some (.map b)) (z:ev ko=some (.agg<|ints k)):
  ∃es',dW P G ev O (.call c)= .val (.tuple []) (O.setObj b (.map es' ck))/\fp n es' (lj m k):=by
 obtain⟨fs,hu⟩:=lg hT.ints;have hf:=wx hu hT.ints hk hm 0
 have key:∃es',qq P O c.argTypes (.map b) (.agg<|ints k)=some (O.setObj b (.map es' ck))/\fp n es' (lj m k):=by
  unfold qq lj;rw[u];dsimp only;rw[hT.ty];dsimp only;rw[hb];dsimp only;rw[hT.plain,hT.shape k hk];simp only[Bool.and_self,cond_true];rw[hf];cases hl:pL m k 0 with
  | none=>grind
  | some x=>
   obtain⟨i,v0⟩:=x;exact⟨_,Z,by rw[wc];exact hm.erase i⟩
 obtain⟨es',h4,h5⟩:=key;refine⟨es',kF (by simp[kindOf,d]) ?_,h5⟩
 have he:lO ev [mo,ko]=some [.map b,.agg<|ints k]:=by
  unfold lO cQ;simp only[h1,z]
 simp only[gf,d,w,he,h4]
theorem Kw {c:Call} {t kt et:TypeId} {n:Nat} (hT:Dg P t kt et n) {b:Nat} {es:List fC} {ck:Nat} {m:LM} (hm:fp n es m) (hb:O.m.get b=some (.map es ck)) {mo:Operand} (d:c.callee= .builtin .len) (u:c.argTypes[0]?=some t) (w:c.args.toList= [mo]) (h1:ev mo=some (.map b)):
  dW P G ev O (.call c)= .val (.int .i64 (.ofNat m.length)) O:=by
 refine Bc (by simp[kindOf,d,isMap,u,hT.ty]) ?_;simp only[gp,d,u,w,hT.ty,h1,hb,bN,hm.length]
end
section
variable {P:Program} {G:Cx} {n:Nat} {t:PT V} {O:N} {K:KP} {L:Own} {Q:Ex->PT V->N->Prop} {ops:Array Oper} {o:Oper} {l:List Oper}
theorem OU (d:D O K L) {t':Nat->PT V} (hw:bH ops t o=some true) (hv:dW P G (bp G t) O o.op= .val (.map O.next) (O.alloc (.map [] 0))) (hp:∀b,dP t n o.dst (.map b)=some (t' b))
  (h:∀(O':N) (b:Nat),D O' K ((b,.map [] 0)::L)->bK P G ops n l (t' b) O' Q):bK P G ops n (o::l) t O Q:=
 Y hw hv (hp _) (h _ _<|d.alloc _)
theorem HP {ev:Operand->Option V} {ty:TypeId}:dW P G ev O (.makeMap ty none)= .val (.map O.next) (O.alloc (.map [] 0)):=by
 exact tC (op:=.makeMap ty none) (mk:=.map) (ob:=.map [] 0) Z Z
theorem Hg {ty kt et:TypeId} {kn:Nat} (hT:Dg P ty kt et kn) {b:Nat} {es:List fC} {ck:Nat} {m:LM} {x:Nat×cN} (hm:fp kn es m) (d:D O K (x::(b,.map es ck)::L)) {mo ko xo:Operand} {k:List Int} {v:Int} {t':PT V} (hk:k.length=kn) (hw:bH ops t o=some true) (u:o.op= .mapUpdate ty mo ko xo)
  (h1:bp G t mo=some (.map b)) (w:bp G t ko=some (.agg<|ints k)) (h3:bp G t xo=some (.int .i64 v)) (hp:dP t n o.dst unit=some t')
  (h:∀O' es' ck',D O' K (x::(b,.map es' ck')::L)->fp kn es' (pM m k v)->bK P G ops n l t' O' Q):bK P G ops n (o::l) t O Q:=by
 obtain⟨es',ck',e1,z⟩:=Ky (G:=G) hT hm (d.get 1 Z) hk h1 w h3;exact gR hw (by rw[u];exact e1) hp<|h _ _ _ (d.LW _) z
theorem Hf {c:Call} {ty kt et:TypeId} {kn:Nat} (hT:Dg P ty kt et kn) {b:Nat} {es:List fC} {ck:Nat} {m:LM} {x:Nat×cN} (hm:fp kn es m) (d:D O K (x::(b,.map es ck)::L)) {mo ko:Operand} {k:List Int} {t':PT V} (hk:k.length=kn) (hw:bH ops t o=some true) (u:o.op= .call c)
  (w:c.callee= .builtin .delete) (z:c.argTypes[0]?=some ty) (A:c.args.toList= [mo,ko]) (h1:bp G t mo=some (.map b)) (B:bp G t ko=some (.agg<|ints k)) (hp:dP t n o.dst (.tuple [])=some t')
  (h:∀O' es',D O' K (x::(b,.map es' ck)::L)->fp kn es' (lj m k)->bK P G ops n l t' O' Q):bK P G ops n (o::l) t O Q:=by
 obtain⟨es',e1,C⟩:=Kv (G:=G) hT hm (d.get 1 Z) hk w z A h1 B;exact Y hw (by rw[u];exact e1) hp<|h _ _ (d.LW _) C
end
end Go.Ev
namespace Go.Ev
variable [Env]
def wL (t:Nat) (m:LM) (n:Nat) (e:bW):LM:=bif bd e then pM m [.ofNat (t+1),.ofNat n] e.loc else m
def qZ (t:Nat):List bW->Nat->LM->LM
 | [],_,m=>m
 | e::l,n,m=>qZ t l (n+1) (wL t m n e)
def pd:List (List bW)->Nat->LM->LM
 | [],_,m=>m
 | l::r,t,m=>pd r (t+1) (qZ t l 0 m)
def lB (loc:Nat):List bT->LM->Option LM
 | [],m=>some m
 | id::l,m=>bif (fO m id.ints).isSome then(bif H ((fO m id.ints).getD 0) (.ofNat loc) then lB loc l (lj m id.ints) else none) else none
def na:List (List bT)->Nat->LM->Option LM
 | [],_,m=>some m
 | l::r,loc,m=>(lB loc l m).bind (na r (loc+1))
def eR (g:XG):Bool:=
 match na g.order 0 (pd g.threads 0 []) with
 | some m=>H (.ofNat m.length) 0
 | none=>false
theorem bX {α:Type} {l:List α} {i:Nat} {x:α} (h:l[i]?=some x):l.drop i=x::l.drop (i+1):=by
 grind [List.drop_eq_getElem_cons]
theorem ej {α:Type} {l:List α} {i:Nat} (h:l.length<=i):l.drop i= []:=List.drop_eq_nil_of_le h
end Go.Ev
namespace Go.Ev
theorem mn {b:Bool} (h:(!b)=true):b=false:=by cases b<;>simp_all
theorem fX {b:Bool} (h:(!b)=false):b=true:=by cases b<;>simp_all
end Go.Ev
namespace Go.Ev
variable [Env]
def fB {α:Type} (p:α->Bool):List α->Nat->Int
 | [],_=>-1
 | x::r,i=>bif p x then .ofNat i else fB p r (i+1)
theorem sR {α:Type} {p:α->Bool}:∀(l:List α) (i:Nat),(bif cq (fB p l i) 0 then false else true)=l.any p
 | [],_=>rfl
 | x::r,i=>by
  show(bif cq (bif p x then .ofNat i else fB p r (i+1)) 0 then false else true)=_;rw[List.any_cons];cases p x with
  | true=>rfl
  | false=>exact sR r (i+1)
def uQ (g:XG) (t n:Nat) (e:bW) (f:bT):Bool:=bif bm e (.ofNat g.init.length) then cF g ⟨.ofNat (t+1),.ofNat n⟩ f else false
def p7 (g:XG) (t:Nat):List bW->List bT->Nat->Bool
 | e::l,f::q,n=>bif uQ g t n e f then p7 g t l q (n+1) else false
 | [],_,_=>true
 | _::_,[],_=>false
def ll (g:XG):List (List bW)->List (List bT)->Nat->Bool
 | l::r,f::q,t=>bif H (.ofNat f.length) (.ofNat l.length) then(bif p7 g t l f 0 then ll g r q (t+1) else false) else false
 | [],_,_=>true
 | _::_,[],_=>false
def cd (g:XG):Int:=
 bif eP g then 3 else bif H (.ofNat g.from_.length) (.ofNat g.threads.length) then(bif H (.ofNat g.order.length) (.ofNat g.init.length) then(bif ll g g.threads g.from_ 0 then(bif eR g then 0 else 2) else 2) else 2) else 2
theorem xD:∀(l:List V) (off:Nat),dM [] l off=l
 | [],_=>rfl
 | x::l,0=>rfl
 | x::l,off+1=>by
  show x::dM [] l off=x::l;rw[xD l off]
def qW (P:Program) (e:TypeId) (m:Nat):Bool:=
 match P.info? e with
 | some j=>Nat.beq j.size m && (Nat.ble 1 j.size && (Nat.ble j.bytes 65536 && ((j.zero.bind pP).any fun z=>(df z).any fun cs=>Nat.beq (dn cs) j.size)))
 | none=>false
theorem uo:∀(l r:List V),cE l=true->cE r=true->cE (l++r)=true
 | [],r,_,h=>h
 | v::l,r,h,h'=>by
  have h1:(bif lh v then cE l else false)=true:=h;cases hv:lh v with
  | false=>rw[hv] at h1;cases h1
  | true=>rw[hv] at h1;exact af hv<|uo l r h1 h'
theorem uM {m:Nat}:∀(n:Nat) (cells:List V),cells.length=n*m->(∀i,i<n->cE ((cells.drop (i*m)).take m)=true)->cE cells=true
 | 0,cells,h,_=>by
  rw[Nat.zero_mul] at h;rw[eN_ h];rfl
 | n+1,cells,h,hh=>by
  have e:cells=cells.take m++cells.drop m:=(List.take_append_drop m cells).symm;rw[Nat.succ_mul] at h;rw[e];refine uo _ _ (by have:=hh 0 oM;grind) (uM (m:=m) n (cells.drop m) (by grind) fun i hi=>?_)
  grind [Nat.succ_mul,List.drop_drop]
section
variable {P:Program} {G:Cx} {O:N} {K:KP} {L:Own}
theorem nN {α:Type} {m:Nat} {R:α->List V->Prop} {l:List α} {v:V} (ar:D O K L) (h:bF K m R l v) (d:∀x vs,R x vs->cE vs=true):
  ∃news,kC O m v=some (l.length,news)/\news.length=l.length*m/\cE news=true/\∀(i:Nat) (x:α),l[i]?=some x->R x ((news.drop (i*m)).take m):=by
 rcases h with ⟨rfl,rfl⟩ | ⟨b,off,c,cells,e,ro,rfl,h2,h3,h4,h5,h6⟩
 ·exact⟨[],Z,(Nat.zero_mul m).symm,Z,fun i x hx=>by simp at hx⟩
 have w:∀(i:Nat) (x:α),l[i]?=some x->R x ((((cells.drop off).take (l.length*m)).drop (i*m)).take m):=fun i x hx=>by
  have u:i<l.length:=(gA.1 hx).1;have hle:(i+1)*m<=l.length*m:=nM_ _ u
  grind [List.drop_take,List.drop_drop]
 have z:((cells.drop off).take (l.length*m)).length=l.length*m:=by grind
 refine⟨(cells.drop off).take (l.length*m),?_,z,uM l.length _ z fun i hi=>d _ _ (w i l[i]<|gC hi),w⟩;unfold kC;dsimp only;rw[ar.da h3]
 grind [bN,nE_,dp,dQ]
theorem xQ {α:Type} {m e:Nat} {R:α->List V->Prop} {l2:List α} {W:V} {b len1 e1:Nat} {fJ:List V} {c:ql} {ts:Array TypeId} {t:TypeId} (C:D O K ((b,.row fJ e1 false)::L)) (hx:bF K m R l2 W) (A:∀x vs,R x vs->cE vs=true) (hn:l2.length<=1048576)
  (B:fJ.length=len1*m) (aa:len1<=1048576) (E:c= .known len1∨(c= .upto m/\e1=e)) (ht:ts[0]?=some t) (hu:P.underlying t=some (.slice e)) (F:qW P e m=true) (h2:dC P ts[1]?=true):
  ∃O' b' c' news e',fM P O ts (.slice b 0 len1 c) W= .val (.slice b' 0 (len1+l2.length) c') O'/\D O' K ((b',.row (fJ++news) e' false)::L)/\news.length=l2.length*m/\(∀(i:Nat) (x:α),l2[i]?=some x->R x ((news.drop (i*m)).take m))/\(c'= .known (len1+l2.length)∨(c'= .upto m/\e'=e)):=by
 obtain⟨news,s1,T,s3,S⟩:=nN C hx A;unfold qW at F;split at F
 ·rename_i j hj;simp only[bA_] at F;obtain⟨a1,a2,a3,a4⟩:=F;have hm:j.size=m:=nB a1;subst hm;have X:((P.info? e).any fun j=>(j.zero.bind pP).any fun z=>(df z).any fun cs=>Nat.beq (dn cs) j.size)=true:=by rw[hj];exact a4
  have hb:=C.get 0 Z;unfold fM;rw[ht];dsimp only;rw[hu];dsimp only;rw[hj];dsimp only;rw[h2,a2,a3];simp only[Bool.and_self,cond_true];rw[s1];dsimp only;rw[hj] at X;rw[s3,show Nat.ble l2.length 1048576=true by simp_all,X];simp only[Bool.and_self,cond_true];have hle:Nat.ble (0+len1*j.size) (dn fJ)=true:=by rw[nE_,bN,B];omega
  have u:takeN (dU fJ 0) (len1*j.size)=fJ:=by grind [dp,dQ]
  have w:Nat.ble len1 1048576=true:=by simp_all
  rcases E with rfl | ⟨rfl,rfl⟩
  ·dsimp only
   by_cases h0:l2.length=0
   ·have d:news= []:=eN_ (by simp_all);subst d;rw[h0,show Nat.ble (len1+0) len1=true by simp_all];simp only[cond_true];rw[hb];dsimp only;rw[show Nat.ble (0+len1*j.size+dn []) (dn fJ)=true by rw[nE_,bN,bN,B];simp];simp only[cond_true];refine⟨_,b,.known len1,[],e1,Z,?_,by simp,S,.inl Z⟩;rw[xD,List.append_nil];exact C.oI _
   have:Nat.ble (len1+l2.length) len1=false:=by
    grind [nE_]
   rw[this];simp only[cond_false];rw[hb];dsimp only;rw[hle,w,u,dX];simp only[Bool.and_self,cond_true];refine⟨_,_,_,news,e,Z,?_,T,S,.inr ⟨Z,Z⟩⟩;exact((C.alloc _).perm<|List.Perm.swap ..).pop
  dsimp only
  by_cases h0:l2.length=0
  ·have d:news= []:=eN_ (by simp_all);subst d;rw[h0];exact⟨_,b,.upto j.size,[],e1,Z,by simp_all,by simp,S,.inr ⟨Z,Z⟩⟩
  have:Nat.beq l2.length 0=false:=by
   grind [nB]
  rw[this,Nat.beq_refl,w];simp only[Bool.and_self,cond_true,cond_false];rw[hb];dsimp only
  have M:Nat.ble (0+len1*j.size+dn news) (dn fJ)=false:=by
   cases hh:Nat.ble (0+len1*j.size+dn news) (dn fJ) with
   | false=>rfl
   | true=>
    rw[nE_,bN,bN,B,T] at hh;have h1:1<=j.size:=by simp_all
    have:1<=l2.length*j.size:=Nat.mul_pos oM h1;omega
  rw[M,Bool.and_false];simp only[cond_false];rw[hle,Nat.beq_refl,u,dX];simp only[Bool.and_self,cond_true];exact⟨_,_,_,news,e1,Z,C.xr _,T,S,.inr ⟨Z,Z⟩⟩
 cases F
end
section
variable {P:Program} {G:Cx} {n:Nat} {t:PT V} {O:N} {K:KP} {L:Own} {Q:Ex->PT V->N->Prop} {ops:Array Oper} {o:Oper} {l:List Oper}
theorem ec {ev:Operand->Option V} {cl:Call} {so xo:Operand} {s x:V} {r:HR} (d:cl.callee= .builtin .append) (u:cl.args.toList= [so,xo]) (h1:ev so=some s) (w:ev xo=some x) (b:dC P cl.argTypes[1]?=true) (h:fM P O cl.argTypes s x=r):dW P G ev O (.call cl)=r:=by
 refine kF (by simp[kindOf,d]) ?_
 have he:lO ev [so,xo]=some [s,x]:=by
  unfold lO cQ;simp only[h1,w]
 simp only[gf,d,u,he,b,cond_true];exact h
theorem nE {α:Type} {m e:Nat} {R:α->List V->Prop} {l2:List α} {F:V} {b len1 e1:Nat} {fJ:List V} {c:ql} {ty:TypeId} {cl:Call} {so xo:Operand} {t':V->PT V} (S:D O K ((b,.row fJ e1 false)::L)) (hx:bF K m R l2 F) (d:∀x vs,R x vs->cE vs=true) (T:l2.length<=1048576)
  (z:fJ.length=len1*m) (A:len1<=1048576) (w:c= .known len1∨(c= .upto m/\e1=e)) (hw:bH ops t o=some true) (W:o.op= .call cl) (B:cl.callee= .builtin .append) (u:cl.args.toList= [so,xo]) (X:cl.argTypes[0]?=some ty) (hu:P.underlying ty=some (.slice e)) (ha:qW P e m=true) (M:dC P cl.argTypes[1]?=true)
  (C:bp G t so=some (.slice b 0 len1 c)) (E:bp G t xo=some F) (hp:∀v,dP t n o.dst v=some (t' v))
  (h:∀(O':N) (b':Nat) (c':ql) (news:List V) (e':Nat),D O' K ((b',.row (fJ++news) e' false)::L)->news.length=l2.length*m->(∀(i:Nat) (x:α),l2[i]?=some x->R x ((news.drop (i*m)).take m))->(c'= .known (len1+l2.length)∨(c'= .upto m/\e'=e))->bK P G ops n l (t' (.slice b' 0 (len1+l2.length) c')) O' Q):bK P G ops n (o::l) t O Q:=by
 obtain⟨O',b',c',news,e',k1,k2,k3,k4,k5⟩:=xQ (P:=P) S hx d T z A w X hu ha M;refine Y hw ?_ (hp _)<|h O' b' c' news e' k2 k3 k4 k5;rw[W];exact ec B u C E M k1
end
end Go.Ev
namespace Go.Ev
variable [Env]
section
variable {P:Program} {G:Cx} {n:Nat} {t:PT V} {O:N} {K:KP} {L:Own} {Q:Ex->PT V->N->Prop} {ops:Array Oper} {o:Oper} {l:List Oper}
theorem EM {α:Type} {m e k:Nat} {kk:IntKind} {R:α->List V->Prop} {la:List α} {v:V} {ty:TypeId} {ev:Operand->Option V} {xo hi:Operand} (h:bF K m R la v) (hk:k<=la.length) (hu:P.underlying ty=some (.slice e)) (hj:(P.info? e).map (·.size)=some m) (hx:ev xo=some v) (hh:ev hi=some (.int kk (.ofNat k))):
  ∃w,fQ P ev ty xo none (some hi) none=some w/\bF K m R (la.take k) w:=by
 cases hq:P.info? e with
 | none=>simp_all
 | some j=>
 rw[hq] at hj;have hj:j.size=m:=by simpa using hj
 subst hj;have hlen:(la.take k).length=k:=by simp_all
 have hb:∀y,k<=y->fy ev hi y=some k:=fun y hy=>by
  unfold fy;rw[hh]
  grind [nE_]
 rcases h with ⟨rfl,rfl⟩ | ⟨b,off,c,cells,e',ro,rfl,z,h3,h4,h5,h6⟩
 ·have d:k=0:=by simpa using hk
  subst d;refine⟨.av,?_,.inl ⟨by simp,Z⟩⟩;unfold fQ;rw[hu,hx];dsimp only;unfold dh
  simp_all
 have fin:∀c',Mh j.size k c'->bF K j.size R (la.take k) (.slice b off k c'):=fun c' u=>by
  refine .inr ⟨b,off,c',cells,e',ro,by rw[hlen],by rw[hlen];exact u,h3,?_,by rw[hlen];omega,fun i x aa=>?_⟩
  ·rw[hlen];have:k*j.size<=la.length*j.size:=nM_ _ hk;omega
  grind
 rcases z with rfl | ⟨cp,rfl,ab⟩
 ·refine⟨.slice b off k (.upto j.size),?_,fin _ (.inl Z)⟩;unfold fQ;rw[hu,hx];dsimp only;unfold dh
  simp_all
 refine⟨.slice b off k (.known cp),?_,fin _ (.inr ⟨cp,Z,by omega⟩)⟩;unfold fQ;rw[hu,hx];dsimp only;unfold cutAt dh;dsimp only;rw[hb _ oM];dsimp only;unfold cut
 simp_all
theorem Hh {α:Type} {m e k:Nat} {kk:IntKind} {R:α->List V->Prop} {la:List α} {v:V} {ty:TypeId} {xo hi:Operand} {t':V->PT V} (h:bF K m R la v) (hk:k<=la.length) (hw:bH ops t o=some true) (b:o.op= .slice ty xo none (some hi) none)
  (hu:P.underlying ty=some (.slice e)) (hj:(P.info? e).map (·.size)=some m) (hx:bp G t xo=some v) (hh:bp G t hi=some (.int kk (.ofNat k))) (hp:∀v,dP t n o.dst v=some (t' v))
  (d:∀w,bF K m R (la.take k) w->bK P G ops n l (t' w) O Q):bK P G ops n (o::l) t O Q:=by
 obtain⟨w,h1,u⟩:=EM (P:=P) h hk hu hj hx hh;refine Y hw ?_ (hp w)<|d w u;rw[b];exact a9 Z h1
end
theorem dc {g:XG} (h:cd g=0):g.threads.length<=4/\g.init.length<=6/\(∀l∈g.threads,l.length<=14)/\g.from_.length=g.threads.length/\g.order.length=g.init.length/\ll g g.threads g.from_ 0=true/\eR g=true:=by
 unfold cd at h;cases h1:eP g with
 | true=>rw[h1] at h;cases h
 | false=>
  rw[h1] at h;simp only[cond_false] at h;cases b:H (.ofNat g.from_.length) (.ofNat g.threads.length) with
  | false=>rw[b] at h;cases h
  | true=>
   rw[b] at h;simp only[cond_true] at h;cases h3:H (.ofNat g.order.length) (.ofNat g.init.length) with
   | false=>rw[h3] at h;cases h
   | true=>
    rw[h3] at h;simp only[cond_true] at h;cases h4:ll g g.threads g.from_ 0 with
    | false=>rw[h4] at h;cases h
    | true=>
     rw[h4] at h;simp only[cond_true] at h;cases h5:eR g with
     | false=>rw[h5] at h;cases h
     | true=>
      unfold eP at h1;cases d:cq 4 (.ofNat g.threads.length) with
      | true=>simp_all
      | false=>
       rw[d] at h1;simp only[cond_false] at h1;cases k2:cq 6 (.ofNat g.init.length) with
       | true=>simp_all
       | false=>
        rw[k2] at h1;simp only[cond_false] at h1;refine⟨bz (a:=4) d,bz (a:=6) k2,fun l hl=>?_,dG b,dG h3,Z,Z⟩;have:=List.any_eq_false.1 h1 l hl;exact bz (a:=14) (by simpa using this)
def iK {α:Type} (ls:List (List α)):Nat:=(ls.map List.length).sum
def DD (g:XG):Nat:=bif H (cd g) 0 then g.init.length+iK g.threads else 0
end Go.Ev
namespace Go.Ev
variable [Env]
theorem sx {a:Int} (h:H a 0=true):a=0:=by rw[dK] at h;simp_all
theorem qT {a b:Nat} (h:b<=a) (h':a<=9223372036854775807):wr .i64 (Int.sub (.ofNat a) (.ofNat b))= .ofNat (a-b):=by
 have e:Int.sub (.ofNat a) (.ofNat b)= .ofNat (a-b):=by
  grind
 rw[e];show(bif Nat.ble (a-b) 9223372036854775807 then _ else _)=_
 grind [nE_]
theorem Iv {g:XG} {th ix:Int} (h:(cZ g ⟨th,ix⟩).isSome=true):∃t i:Nat,th= .ofNat t/\ix= .ofNat i/\t<=g.threads.length/\(t=0->i<g.init.length)/\∀m,t=m+1->∃l,g.threads[m]?=some l/\i<l.length:=by
 cases th with
 | negSucc t=>cases h
 | ofNat t=>cases ix with
  | negSucc i=>cases t<;>cases h
  | ofNat i=>
   refine⟨t,i,Z,Z,?_,?_,?_⟩
   ·cases t with
    | zero=>exact Nat.zero_le _
    | succ t=>
     have h:((g.threads[t]?).bind (·[i]?)).isSome=true:=h
     grind
   ·rintro rfl;have h:((g.init[i]?).map fun v=>(⟨2,i,1,0,v⟩:bW)).isSome=true:=h
    simp_all
   rintro m rfl;have h:((g.threads[m]?).bind (·[i]?)).isSome=true:=h
   grind
section
variable {O:N} {K K':KP} {L:Own}
theorem D.weaken (h:D O K' L) (hk:KP.le K K'):D O K L where
 kept b o hb:=h.kept b o (hk b o hb)
 own:=h.own
 ne:=h.ne
def KP.m7 (K:KP) (M:Own):KP:=fun b o=>K b o∨(b,o)∈M
theorem KP.dI (K:KP) (M:Own):KP.le K (K.m7 M):=fun _ _ h=>.inl h
theorem KP.gj {M:Own} (k:Nat) {b:Nat} {o:cN} (h:M[k]?=some (b,o)):K.m7 M b o:=.inr (gB_ h)
theorem D.keeps {M:Own} (h:D O K (M++L)):D O (K.m7 M) L where
 kept b o hb:=by
  rcases hb with hb | hb
  ·exact h.bA.kept b o hb
  obtain⟨h1,d⟩:=h.own _ (List.mem_append_left _ hb);exact⟨h1,d,fun e he hh=>(List.pairwise_append.1 h.ne).2.2 _ hb e he hh.symm⟩
 own e he:=h.own e (List.mem_append_right _ he)
 ne:=(List.pairwise_append.1 h.ne).2.1
end
section
variable {P:Program} {G:Cx} {K K':KP}
def ML (P:Program) (G:Cx) (K:KP) (n:Int) (vs:List V):Prop:=
 ∃(f:Nat) (ca:List V),vs= [.func f [] ca]/\Ae P f=true/\∀(O:N) (L:Own),D O K L->a8 P G f ca O fun v O'=>v= .int .i64 n/\D O' K L
def vP (P:Program) (G:Cx) (K:KP) (l:List Int) (cells:List V):Prop:=l.length=cells.length/\∀(i:Nat) (x:Int),l[i]?=some x->∃c,cells[i]?=some c/\ML P G K x [c]
theorem vP.nil:vP P G K [] []:=⟨Z,fun i x h=>by simp at h⟩
theorem vP.cons {x:Int} {l:List Int} {c:V} {cells:List V} (h:ML P G K x [c]) (b:vP P G K l cells):vP P G K (x::l) (c::cells):=by
 refine⟨by simp[b.1],fun i y hy=>?_⟩;cases i with
 | zero=>simp_all
 | succ i=>exact b.2 i y (by simpa using hy)
theorem vP.slice {l:List Int} {cells:List V} (h:vP P G K l cells) {b e n c:Nat} (hk:K b (.row cells e false)) (u:l.length=n) (d:n<=c) (hl:n<=9223372036854775807):bF K 1 (ML P G K) l (.slice b 0 n (.known c)):=by
 subst u;refine .inr ⟨b,0,_,cells,e,false,Z,.inr ⟨_,Z,d⟩,hk,by rw[h.1];omega,hl,fun i x hx=>?_⟩;obtain⟨c,d,w⟩:=h.2 i x hx
 have:(cells.drop (0+i*1)).take 1= [c]:=by
  obtain⟨aa,rfl⟩:=gA.1 d
  grind [List.drop_eq_getElem_cons]
 rw[this];exact w
theorem Dv {f:Nat} {args:List V} {O:N} {M L:Own} {u:V} (h:a8 P G f args O fun v O'=>v=u/\D O' (K.m7 M) L):a8 P G f args O fun v O'=>v=u/\D O' K L:=
 h.mono fun _ _ ⟨a,b⟩=>⟨a,b.weaken<|K.dI M⟩
theorem cm {ev:Operand->Option V} {O:N} {t e:TypeId} {len m:Nat} {parts:Array (Nat×Operand)} {z cs:List V} (d:P.underlying t=some (.slice e)) (hj:(P.info? e).map (·.size)=some m) (u:(fw P e).bind df=some z)
  (hb:(Nat.beq (dn z) m && Nat.ble (len*m) 16777216 && Nat.ble 1 m)=true) (hf:jM (fun i=>some (i*m,m)) ev parts.toList (fl z len)=some cs):dW P G ev O (.buildSlice t len parts)= .val (.slice O.next 0 len (.known len)) (O.alloc (.row cs e false)):=by
 refine tC (mk:=.slice len len) Z ?_;obtain⟨j,b,rfl⟩:=oM_.1 hj;simp only[fP,d,b,u,hb,cond_true,hf]
end
section
variable {P:Program} {G:Cx} {n:Nat} {t:PT V} {O:N} {K:KP} {L:Own} {Q:Ex->PT V->N->Prop} {ops:Array Oper} {o:Oper} {l:List Oper} {ix:Nat} {lp:List (Nat×List Nat)}
end
theorem eG (k:IntKind) (n:Int):eB (.int k n) (.int k n)=true:=by
 unfold Go.Ev.eB;exact fA k n
theorem bF.eB {α:Type} {K:KP} {m:Nat} {R:α->List V->Prop} {l:List α} {v:V} (h:bF K m R l v):Go.Ev.eB v v=true:=by
 have hb:=h.jm;rcases h with ⟨_,rfl⟩ | ⟨b,off,c,cells,e,ro,rfl,hc,_⟩<;>exact hb
def MU (x y:Int):Int:=bif cq x y then-1 else bif cq y x then 1 else 0
def Oz {α:Type} (c:α->α->Int):List α->List α->Int
 | [],[]=>0
 | [],_::_=>-1
 | _::_,[]=>1
 | x::l,y::m=>bif H (c x y) 0 then Oz c l m else c x y
def dt {α:Type} (m E:Nat) (R:α->List V->Prop) (l:List α) (u:V) (M:Own):Prop:=
 (l= []/\u= .av/\M= [])∨∃(b:Nat) (c:ql) (cells:List V) (e:Nat),u= .slice b 0 l.length c/\M= [(b,.row cells e false)]/\cells.length=l.length*m/\(∀(i:Nat) (x:α),l[i]?=some x->R x ((cells.drop (i*m)).take m))/\(c= .known l.length∨(c= .upto m/\e=E))/\l.length<=1048576
inductive gN {α:Type} (m E:Nat) (R:α->List V->Prop):List (List α)->List V->Own->Prop
 | nil:gN m E R [] [] []
 | snoc {ls:List (List α)} {us:List V} {M M1:Own} {l:List α} {u:V}:gN m E R ls us M->dt m E R l u M1->gN m E R (ls++[l]) (us++[u]) (M1++M)
section
variable {α:Type} {m E:Nat} {R:α->List V->Prop} {l:List α} {u:V} {M:Own} {K:KP} {ls:List (List α)} {us:List V}
theorem dt.leaf (h:dt m E R l u M):df u=some [u]/\lh u=true:=by
 rcases h with ⟨_,rfl,_⟩ | ⟨b,c,cells,e,rfl,_⟩<;>exact⟨rfl,rfl⟩
theorem dt.gL (h:dt m E R l u M) (hk:∀e∈M,K e.1 e.2):bF K m R l u:=by
 rcases h with ⟨h1,d,_⟩ | ⟨b,c,cells,e,rfl,rfl,h3,h4,h5,h6⟩
 ·exact .inl ⟨h1,d⟩
 refine .inr ⟨b,0,c,cells,e,false,Z,?_,hk _<|mS_ ..,by omega,by omega,fun i x hx=>by simp_all⟩;rcases h5 with h5 | h5
 ·exact .inr ⟨_,h5,nR_ _⟩
 exact .inl h5.1
theorem gN.length (h:gN m E R ls us M):us.length=ls.length:=by
 induction h with
 | nil=>rfl
 | snoc _ _ ih=>simp[ih]
theorem gN.at (h:gN m E R ls us M):∀{i:Nat} {l:List α},ls[i]?=some l->∃u M1 A B,us[i]?=some u/\dt m E R l u M1/\M=A++(M1++B)/\∀l' u' d,dt m E R l' u' d->gN m E R (ls.set i l') (us.set i u') (A++(d++B)):=by
 induction h with
 | nil=>simp_all
 | @snoc ls us M M1 l u h h1 ih=>
  intro i x hx;have hl:=h.length
  by_cases hi:i<ls.length
  ·rw[gL_ hi] at hx;obtain⟨w,z,A,B,k1,k2,rfl,C⟩:=ih hx;refine⟨w,z,M1++A,B,by grind,k2,by simp,fun l' u' M' h'=>?_⟩;rw[List.set_append_left _ _ hi,List.set_append_left _ _ oM,lQ_];exact .snoc (C l' u' M' h') h1
  have hlt:=(gA.1 hx).1;rw[lA_,List.length_singleton] at hlt;obtain rfl:i=ls.length:=by omega
  rw[gR_<|nR_ _,Nat.sub_self] at hx;simp only[List.getElem?_cons_zero,oJ_] at hx;subst hx;refine⟨u,M1,[],M,by simp_all,h1,Z,fun l' u' M' h'=>?_⟩;rw[List.set_append_right _ _<|nR_ _,List.set_append_right _ _ oM,hl,Nat.sub_self];exact gN.snoc (M1:=M') (M:=M) h h'
theorem gN.each (h:gN m E R ls us M) (hk:∀e∈M,K e.1 e.2):∀(i:Nat) (l:List α),ls[i]?=some l->∃u,us[i]?=some u/\bF K m R l u:=by
 intro i l hl;obtain⟨u,M1,A,B,h1,d,rfl,_⟩:=h.at hl;exact⟨u,h1,d.gL fun e he=>hk e (by simp[he])⟩
theorem gN.gL (h:gN m E R ls us M) (hk:∀e∈M,K e.1 e.2) {b e n:Nat} (hb:K b (.row us e false)) (d:n=ls.length) (hl:ls.length<=1048576):bF K 1 (RL K m R) ls (.slice b 0 n (.known n)):=by
 subst d;refine .inr ⟨b,0,_,us,e,false,Z,.inr ⟨_,Z,nR_ _⟩,hb,by rw[h.length];omega,by omega,fun i x hx=>?_⟩;obtain⟨u,h1,w⟩:=h.each hk i x hx;refine⟨u,?_,w⟩;obtain⟨aa,rfl⟩:=gA.1 h1
 grind [List.drop_eq_getElem_cons]
end
section
variable {O:N} {K:KP} {L M:Own} {b:Nat} {o:cN}
theorem D.IL (h:D O K (M++(b,o)::L)):O.m.get b=some o:=(h.own (b,o) (by simp)).2
theorem D.EJ (h:D O K (M++(b,o)::L)) (o':cN):D (O.setObj b o') K (M++(b,o')::L):=((h.perm List.perm_middle).oI o').perm List.perm_middle.symm
theorem gh (v:V):∀n,fl [v] n=List.replicate n v
 | 0=>rfl
 | n+1=>by
  show gE [v] (fl [v] n)=_;rw[dX,gh v n];rfl
theorem F8 {us:List V} {u v:V} {n i:Nat} (hu:us.length=i) (hi:i<n):dM [u] (us++List.replicate (n-i) v) (0+i*1)=(us++[u])++List.replicate (n-(i+1)) v:=by
 obtain⟨k,hk⟩:∃k,n-i=k+1:=⟨n-i-1,by omega⟩;rw[hk,show n-(i+1)=k by omega,show 0+i*1=us.length by omega,nO _ _ _ (by simp),List.take_left,List.length_singleton,<-List.drop_drop,List.drop_left,List.replicate_succ];rfl
end
section
variable {P:Program} {G:Cx} {ev:Operand->Option V} {O:N}
theorem iy {t e w n:Nat} {k k':IntKind} {z:List V} {lo co:Operand} (A:P.underlying t=some (.slice e)) (hw:(P.info? e).map (·.bytes)=some w) (B:(fw P e).bind df=some z)
  (d:((P.info? e).any fun j=>Nat.beq (dn z) j.size && Nat.ble 1 j.size)=true) (hl:ev lo=some (.int k (.ofNat n))) (C:ev co=some (.int k' (.ofNat n))) (hn:w*n<=1048576) (aa:n<=1048576):
  dW P G ev O (.makeSlice t lo co)= .val (.slice O.next 0 n (.known n)) (O.alloc (.row (fl z n) e false)):=by
 refine tC (mk:=.slice n n) Z ?_;obtain⟨j,hj,rfl⟩:=oM_.1 hw;rw[hj] at d;simp only[Option.any_some,bA_] at d;simp only[fP,A,hl,C,hj,B];rw[d.1,d.2,show Nat.ble n n=true by simp_all,show Nat.ble (j.bytes*n) 1048576=true by simp_all,show Nat.ble n 1048576=true by simp_all];rfl
end
theorem ek.leaf:∀x vs,ek x vs->cE vs=true:=fun _ _ h=>by cases h;rfl
theorem kJ.leaf:∀x vs,kJ x vs->cE vs=true:=fun _ _ h=>by cases h;rfl
theorem ji.leaf:∀x vs,ji x vs->cE vs=true:=fun _ _ h=>by cases h;rfl
end Go.Ev
namespace Go.Ev
variable [Env]
inductive m6 (b:Nat) (o':cN):Own->Own->Prop
 | here {o:cN} {L:Own}:m6 b o' ((b,o)::L) ((b,o')::L)
 | there {x:Nat×cN} {L L':Own}:m6 b o' L L'->m6 b o' (x::L) (x::L')
 | dv {M L L':Own}:m6 b o' L L'->m6 b o' (M++L) (M++L')
section
variable {O:N} {K:KP} {L L':Own} {b:Nat} {o':cN}
theorem m6.Rp (h:m6 b o' L L'):∃A B o,L=A++(b,o)::B/\L'=A++(b,o')::B:=by
 induction h with
 | here=>exact⟨[],_,_,Z,Z⟩
 | @there x L L' h ih=>grind
 | @dv M L L' h ih=>grind
theorem D.Q3 (h:D O K L) (hu:m6 b o' L L'):D (O.setObj b o') K L':=by
 obtain⟨A,B,o,rfl,rfl⟩:=hu.Rp;exact h.EJ o'
theorem D.sub (h:D O K L) (d:L'.Sublist L):D O K L' where
 kept b o hb:=let ⟨h1,w,h3⟩:=h.kept b o hb;⟨h1,w,fun e he=>h3 e (d.subset he)⟩
 own e he:=h.own e (d.subset he)
 ne:=h.ne.sublist d
theorem eO {M L L':Own} (h:L'.Sublist L):(M++L').Sublist (M++L):=(List.append_sublist_append_left M).2 h
end
section
variable {P:Program} {G:Cx} {n:Nat} {t:PT V} {O:N} {K:KP} {L:Own} {Q:Ex->PT V->N->Prop} {ops:Array Oper} {o:Oper} {l:List Oper} {i:Nat} {rc:List Nat} {lp:List (Nat×List Nat)}
theorem ei {b:Nat} {ob':cN} {L':Own} {t':PT V} (d:D O K L) (hu:m6 b ob' L L') (hw:bH ops t o=some true) (hv:dW P G (bp G t) O o.op= .skip (O.setObj b ob')) (hp:dP t n o.dst unit=some t')
  (h:∀O',D O' K L'->bK P G ops n l t' O' Q):bK P G ops n (o::l) t O Q:=gR hw hv hp (h _<|d.Q3 hu)
theorem ik {b:Nat} {ob':cN} {L':Own} {t':PT V} (w:D O K L) (hu:m6 b ob' L L') (d:ops[i]?=some o) (hw:bH ops t o=some true) (hv:dW P G (bp G t) O o.op= .skip (O.setObj b ob')) (hp:dP t n o.dst unit=some t')
  (h:∀O',D O' K L'->(du P G ops t' O' rc=true/\cO P G ops n lp t' O' Q)):cO P G ops n ((i,rc)::lp) t O Q:=ou d hw hv hp (h _<|w.Q3 hu)
end
section
variable {P:Program} {t:PT V} {O:N}
theorem yb {fn:Func} {j ty b m e:Nat} {ro:Bool} {cells:List V} (w:fn.results.toList= [.cell j ty]) (h1:t.get j=some (.ptr b 0)) (hm:O.m.get b=some (.row cells e ro)) (z:dT P ty=some (some m)) (d:cells.length=m):eX P fn t O=some (.agg cells):=by
 unfold eX;rw[w]
 have e1:fG P t O (.cell j ty)=some (V.agg cells):=by
  show(match t.get (posOf j) with
   | some (.ptr b off)=>match O.m.get b with
    | some (.row cells _ _)=>match dT P ty with
     | some (some n)=>bif Nat.ble (off+n) (dn cells) then some (V.agg<|takeN (dU cells off) n) else none
     | some none=>nth cells off
     | none=>none
    | _=>none
   | _=>none)=_
  rw[show t.get (posOf j)=some (.ptr b 0) from h1];dsimp only;rw[hm];dsimp only;rw[z];dsimp only;rw[bN,d,nA_,show Nat.ble m m=true by simp_all,dp,dQ,List.drop_zero,<-d,List.take_length];rfl
 have:cQ (fG P t O) [.cell j ty]=some [V.agg cells]:=by
  unfold cQ;simp only[e1]
 rw[this]
theorem eQ {fn:Func} {R:V->N->Prop} {j ty b m e:Nat} {ro:Bool} {cells:List V} (d:fn.results.toList= [.cell j ty]) (h1:t.get j=some (.ptr b 0)) (hm:O.m.get b=some (.row cells e ro)) (w:dT P ty=some (some m)) (z:cells.length=m) (A:R (.agg cells) O):zT P fn R .ret t O:=
 ⟨.inr Z,_,yb d h1 hm w z,A⟩
end
end Go.Ev
namespace Go.Ev
variable [Env]
theorem pT {α:Type} {m E:Nat} {R:α->List V->Prop} {l1 l2:List α} {fJ news:List V} {b e:Nat} {c:ql} {n:Nat} (aa:fJ.length=l1.length*m) (h1:∀(i:Nat) (x:α),l1[i]?=some x->R x ((fJ.drop (i*m)).take m)) (ab:news.length=l2.length*m) (h2:∀(i:Nat) (x:α),l2[i]?=some x->R x ((news.drop (i*m)).take m))
  (d:n=l1.length+l2.length) (hc:c= .known n∨(c= .upto m/\e=E)) (hle:n<=1048576):dt m E R (l1++l2) (.slice b 0 n c) [(b,.row (fJ++news) e false)]:=by
 subst d;refine .inr ⟨b,c,_,e,by simp_all,Z,by grind,fun i x hx=>?_,by simp_all,by simp_all⟩
 by_cases hi:i<l1.length
 ·rw[gL_ hi] at hx;have hle:(i+1)*m<=l1.length*m:=nM_ _ hi
  grind
 grind [nM_,List.drop_append,List.drop_eq_nil_of_le,Nat.sub_mul]
def bV (g:XG) (loc:Int):List bT:=
 bif H (cd g) 0 then(bif cq loc 0 then [] else match g.order[loc.toNat]? with | some l=>⟨0,loc⟩::l | none=>[]) else []
theorem oQ {g:XG} {loc:Int} (h:H (cd g) 0=false):bV g loc= []:=by unfold bV;rw[h];rfl
theorem qj {g:XG} {loc:Int} (h:cq loc 0=true):bV g loc= []:=by unfold bV;simp_all
theorem qi {g:XG} {loc:Nat} (h:g.order.length<=loc):bV g (.ofNat loc)= []:=by
 unfold bV
 simp_all
theorem ew {g:XG} {loc:Nat} {l:List bT} (hc:H (cd g) 0=true) (h:g.order[loc]?=some l):bV g (.ofNat loc)=⟨0,.ofNat loc⟩::l:=by
 have e:(Int.ofNat loc).toNat=loc:=rfl;have e2:cq (.ofNat loc) 0=false:=by rw[show(0:Int)= .ofNat 0 from Z,jz];simp
 unfold bV
 simp_all
end Go.Ev
namespace Go.Ev
variable [Env]
end Go.Ev
end
