/- Part of the proof: an evaluator of the model's code, rules for walks on it, walks. Without conditions. -/
import Derived.Test.YtpomgjnfncgkgaaGreatDoorEa
import Derived.RecoverIn
import Derived.TacticsIn
import Derived.OrdersIn
import Derived.Sort.LoopGhostIn
import Derived.Scope
import Derived.ProofKit
import Derived.LaidSub
import Derived.KernelRfl
set_option linter.unusedSectionVars false
set_option linter.unusedVariables false
set_option linter.unusedSimpArgs false
noncomputable section
namespace Go.Ev
variable [Env]
theorem vp {p q:Pos} (h:dX.beqP p q=true):p=q:=nB h
theorem Km {c d:pH} (h:dX.beqC c d=true):c=d:=by
 unfold dX.beqC at h;split at h
 ·rw[nB h]
 ·rw[nB h]
 cases h
theorem EX {x y:V} (h:dX.fD x y=true):x=y:=by
 unfold dX.fD at h;split at h
 ·rw[mz] at h;rw[eq_of_beq h]
 ·rw[bA_,dF,decide_eq_true_eq] at h;rw[pR h.1,h.2]
 ·rw[mB,decide_eq_true_eq] at h;rw[h]
 ·rfl
 ·rw[nB h]
 ·rw[bA_] at h;rw[vp h.1,nB h.2]
 ·rfl
 ·simp only[bA_] at h;rw[vp h.1.1.1,nB h.1.1.2,nB h.1.2,Km h.2]
 ·rfl
 ·rw[vp h]
 ·rfl
 ·rfl
 ·rw[nB h]
 ·simp only[bA_] at h;rw[nB h.1.1,vp h.1.2,nB h.2]
 cases h
theorem vo:∀{xs ys:List V},dX.beqL xs ys=true->xs=ys
 | [],[],_=>rfl
 | [],_::_,h=>by cases h
 | _::_,[],h=>by cases h
 | x::xs,y::ys,h=>by
  have h':(bif dX.fD x y then dX.beqL xs ys else false)=true:=h;rw[bA] at h';split at h'
  ·rename_i a;rw[EX a,vo h']
  cases h'
theorem Kl {x y:V} (h:dX x y=true):x=y:=by
 unfold dX at h;split at h
 ·rw[vo h]
 exact EX h
theorem DW (E:Nat->TypeId) {l:List (Nat×List V)} {b:Nat} {o:cG} (h:(IM l E).get b=some o):∃x∈l,x.1=b/\o= .row x.2 (E x.1) true:=by
 have key:∀(l:List (Nat×List V)) (m:N cG),(l.foldl (fun m x=>m.put (some (.row x.2 (E x.1) true)) (posOf x.1)) m).get b=some o->(∃x∈l,x.1=b/\o= .row x.2 (E x.1) true)∨m.get b=some o:=by
  intro l;induction l with
  | nil=>intro m h;exact .inr h
  | cons x l ih=>
   intro m h;rcases ih _ h with ⟨y,a,c⟩ | h
   ·exact .inl ⟨y,mC_ _ a,c⟩
   rw[N.lW] at h;split at h
   ·rename_i e;cases h;exact .inl ⟨x,mS_,e.symm,Z⟩
   exact .inr h
 rcases key l _ h with h | h
 ·exact h
 rw[N.mE] at h;cases h
section
variable {P:Program} {G:Cx} {S:dh} {U:D} {w:World}
theorem Cg (k:∀g,G.ov g=true->rR P g) {ev:Operand->Option V} {f:Operand->Value} {o:Oper} {r:HR} (c:Inv S U w) (i:ER S ev f o.op) (h:dW P G ev U o.op=r) (a:∀n,r≠ .err n):xW P S U w r ((execOp f o).run P w):=by
 subst h;unfold dW at a⊢;cases j:kindOf P o.op with
 | pure=>
  rw[j] at a;dsimp only at a⊢;cases b:di P ev o.op with
  | none=>rw[b] at a;exact absurd Z<|a<|Nat.add 1000<|sV o.op
  | some v=>
   obtain⟨x,d,e⟩:=xk (P:=P) (w:=w) i b;rw[d];exact .val e c<|eY.refl S U w
 | read=>
  rw[j] at a;dsimp only at a⊢;cases b:gW P ev U o.op with
  | none=>rw[b] at a;exact absurd Z<|a<|Nat.add 2000<|sV o.op
  | some v=>
   obtain⟨x,d,e⟩:=xn (P:=P) c i b;rw[d];exact .val e c<|eY.refl S U w
 | alloc=>
  rw[j] at a;dsimp only at a⊢;cases b:gi P ev o.op with
  | none=>rw[b] at a;exact absurd Z<|a<|Nat.add 3000<|sV o.op
  | some p=>
   obtain⟨ob,mk⟩:=p;obtain⟨x,ob',n,d,aa,m,e⟩:=ur (P:=P) (w:=w) i b;obtain⟨inv,st⟩:=c.alloc (l:=⟨w.heap.size,0,n⟩) Z m;rw[d];exact .val (e _ _<|dh.cZ _ _ _) inv st
 | jW=>
  rw[j] at a;exact BS k c i Z a
theorem uQ {ev:Operand->Option V} {o:Oper} (a:∀n,dW P G ev U o.op≠ .err n) (c:Call):o.op≠ .defer c:=by
 intro e;rw[e] at a;exact a 16 Z
def NJ (S:dh):Md->FrameMode->Prop
 | .ret,u=>u= .returning
 | .mO v,u=>∃x,u= .panicking [{v:=x,recovered:=false}]/\H S v x
 | .PG v,u=>∃x,u= .panicking [{v:=x,recovered:=true}]/\H S v x
theorem NJ.mono {S S':dh} (h:S.le S'):∀{md:Md} {u:FrameMode},NJ S md u->NJ S' md u
 | .ret,_,h'=>h'
 | .mO _,_,⟨x,a,b⟩=>⟨x,a,H.mono h _ _ b⟩
 | .PG _,_,⟨x,a,b⟩=>⟨x,a,H.mono h _ _ b⟩
theorem uO {ih:lf} (hS:Sound P G ih) {fn:Func} {m:Nat} {tmps:Array Value} {R:Ending->World->Prop}:∀(d:List DE) (ds:List Deferred) (md:Md) (U:D) (a:Md) (b:D) (S:dh) (w:World) (u:FrameMode),wP P G ih d md U=some (a,b)->DR S d ds->Inv S U w->GR S G->NJ S md u->
  (∀(S':dh) (w':World) (u':FrameMode),Inv S' b w'->eY S U w S' b w'->NJ S' a u'->LeavesIn Fence.wide m P fn tmps R [] u' w')->LeavesInM Fence.wide m P fn tmps R ds u w
 | [],ds,md,U,a,b,S,w,u,h,c,e,g,hm,f=>by
  have h':some (md,U)=some (a,b):=h;cases h';have:ds= []:=c;subst this;exact f S w u e (eY.refl S U w) hm
 | _::_,ds,md,U,a,b,S,w,u,h,c,e,g,hm,f=>by cases h
theorem tK {ih:lf} (l:Sound P G ih) {fn:Func} {m n:Nat} {t:N V} {d:List DE} {md:Md} {r:KR} {a:Act} {u:FrameMode} {R:Ending->World->Prop} (h:x8 P G ih fn md t d U=r) (e:∀n,r≠ .err n) (g:Inv S U w) (o:GR S G) (y:TR S t n a.tmps) (p:DR S d a.defers) (hm:NJ S md u)
  (s:∀(S':dh) (w':World) (E:Ending),Inv S' r.heap w'->eY S U w S' r.heap w'->NR S' r E->R E w'):LeavesInM Fence.wide m P fn a.tmps R a.defers u w:=by
 unfold x8 at h;cases f:wP P G ih d md U with
 | none=>rw[f] at h;exact absurd h.symm<|e 71
 | some q=>
  obtain⟨i,z⟩:=q;rw[f] at h;cases i with
  | ret=>
   dsimp only at h;cases j:fm P fn t z with
   | none=>rw[j] at h;exact absurd h.symm<|e 70
   | some v=>
    rw[j] at h;subst h;refine uO l d a.defers md U _ _ S w u f p g o hm fun S' w' u' c st' b=>?_
    have b:u'= .returning:=b;subst b;obtain⟨x,A,k⟩:=yh (P:=P) c (y.mono<|st'.le g) j;exact⟨x,A,s S' w' _ c st' ⟨x,Z,k⟩⟩
  | mO v=>
   dsimp only at h;subst h;refine uO l d a.defers md U _ _ S w u f p g o hm fun S' w' u' c st' b=>?_
   obtain⟨x,rfl,k⟩:=b;exact s S' w' _ c st' ⟨x,Z,k⟩
  | PG v=>exact absurd h.symm (e 71)
theorem yB {ih:lf} (o:Sound P G ih) {f:Nat} {args:List V} {xs:Array Value} {r:KR} (h:lj P G ih f args U=r) (a:∀n,r≠ .err n) (p:Inv S U w) (q:GR S G) (F:dp S args xs.toList)
  (rl:Option Nat) (m:Nat) {R:Ending->World->Prop} (y:∀(S':dh) (w':World) (E:Ending),Inv S' r.heap w'->eY S U w S' r.heap w'->NR S' r E->R E w'):CallsIn (oO rl) m P f xs w R:=by
 refine sc rl ?_;unfold lj at h;cases z:P.funcs[f]? with
 | none=>rw[z] at h;exact absurd h.symm<|a 74
 | some fn=>
 rw[z] at h;dsimp only at h;cases u:fn.body with
 | none=>rw[u] at h;exact absurd h.symm<|a 73
 | some c=>
 cases A:ry fn.ntmps args with
 | none=>rw[u,A] at h;exact absurd h.symm<|a 73
 | some t=>
 rw[u,A] at h;dsimp only at h;refine callsIn_of_wp_marks z u trivial ?_;have ht:=Df A F;cases C:ih c t fn.ntmps [] none U with
 | err k=>rw[C] at h;exact absurd h.symm<|a k
 | ok e t' d' K=>
  rw[C] at h;have hcode:=fun(Q:Exit->Act->World->Prop) L=>o.run c t fn.ntmps [] none U e t' d' K C S w {tmps:=xs++Array.replicate (fn.ntmps-xs.size) undef,defers:=[]} none m Q p q ht Z trivial L
  cases e with
  | normal=>
   refine hcode _ fun S' w' a' d st g j E b=>?_
   have b:E= .normal:=b;subst b;exact tK o h a d (q.mono<|st.le p) g j (md:=.ret) Z fun l w₂ E i₂ s₂ b=>y l w₂ E i₂ (st.trans s₂) b
  | ret=>
   refine hcode _ fun S' w' a' d st g j E b=>?_
   have b:E= .ret:=b;subst b;exact tK o h a d (q.mono<|st.le p) g j (md:=.ret) Z fun l w₂ E i₂ s₂ b=>y l w₂ E i₂ (st.trans s₂) b
  | mO v=>
   refine hcode _ fun S' w' a' d st g j E b=>?_
   obtain⟨x,rfl,M⟩:=b;exact tK o h a d (q.mono<|st.le p) g j (md:=.mO v) ⟨x,Z,M⟩ fun l w₂ E i₂ s₂ b=>y l w₂ E i₂ (st.trans s₂) b
  | exit i=>exact absurd h.symm (a 72)
  | goto i=>exact absurd h.symm (a 72)
theorem m8 {ih:lf} (a:Sound P G ih) {f:Nat} {args:List V} {xs:Array Value} {U':D} {v:V} (h:lj P G ih f args U= .ret v U') (b:Inv S U w) (c:GR S G) (d:dp S args xs.toList)
  (rl:Option Nat) (m:Nat) {R:Ending->World->Prop} (e:∀(S':dh) (w':World) (x:Value),Inv S' U' w'->eY S U w S' U' w'->H S' v x->R (.returned x) w'):CallsIn (oO rl) m P f xs w R:=
 yB a h (fun n h=>by cases h) b c d rl m fun S' w' E i s ⟨x,g,j⟩=>by subst g;exact e S' w' x i s j
theorem nX {S S':dh} {v:V} {x:Value} (h:mD v=true) (a:H S v x):H S' v x:=by
 cases v<;>first | (simp[mD] at h;done) | (simp only[H] at a⊢;exact a)
theorem sx {v:V} {l:List V} (h:eH (v::l)=true):mD v=true/\eH l=true:=by
 have h':(bif mD v then eH l else false)=true:=h;cases a:mD v with
 | true=>rw[a] at h';exact⟨Z,h'⟩
 | false=>rw[a] at h';cases h'
theorem lg:∀{l:List V},eH l=true->∀v∈l,mD v=true
 | [],_,v,a=>by cases a
 | x::l,h,v,a=>by
  obtain⟨b,c⟩:=sx h;rcases mQ_.1 a with rfl | a
  ·exact b
  exact lg c v a
theorem uo {S S':dh}:∀{vs:List V} {xs:List Value},eH vs=true->dp S vs xs->dp S' vs xs
 | [],xs,_,h=>by rw[h.eQ];exact dp.nil
 | v::vs,xs,h,a=>by
  obtain⟨b,c⟩:=sx h;obtain⟨x,r,rfl,d,e⟩:=a.cons_inv;exact dp.cons (nX b d)<|uo c e
theorem Gt {x y:V} (h:zO x y=true):x=y:=by
 unfold zO at h;split at h
 ·rw[mz] at h;rw[eq_of_beq h]
 ·rw[bA_,dF,decide_eq_true_eq] at h;rw[pR h.1,h.2]
 ·rw[mB,decide_eq_true_eq] at h;rw[h]
 ·rfl
 ·rfl
 ·rfl
 ·rfl
 ·rfl
 cases h
theorem oK:∀{xs ys:List V},kS xs ys=true->xs=ys
 | [],[],_=>rfl
 | [],_::_,h=>by cases h
 | _::_,[],h=>by cases h
 | x::xs,y::ys,h=>by
  have h':(bif zO x y then kS xs ys else false)=true:=h;rw[bA] at h';split at h'
  ·rename_i a;rw[Gt a,oK h']
  cases h'
theorem s8 (v:V):∀(n:Nat),FJ n v=List.replicate n v
 | 0=>rfl
 | n+1=>by show v::FJ n v=_;rw[s8 v n,List.replicate_succ]
theorem kr.inv {w w':World} (a:kr w w') (c:Inv S U w):Inv S U w'/\eY S U w S U w':=
 c.of ⟨⟨c.fresh,fun b l d=>Nat.lt_of_lt_of_le (c.dE b l d) a.size,fun b o l d e=>let ⟨x,f,g⟩:=c.obj b o l d e;⟨x,by rw[a.same _<|c.dE b l e];exact f,g⟩,c.inj⟩,
  ⟨fun _ _=>Z,nR_ _,a.size,fun r i _=>a.same r i,fun _ h _=>h,a.tape,a.os,a.out⟩⟩
theorem Fc {b vb:Pos} {o o':cG} (x:Pos):(fc U b o vb o').m.get x=if x=vb then some o' else if x=b then some o else none:=by
 unfold fc;rw[N.lW,N.lW,N.mE]
theorem Lw (c:Inv S U w) {b vb:Pos} {o o₁ o':cG} {l:Loc} (v:U.m.get b=some o) (g:U.m.get vb=some o') (z:S b=some l) (i:o.ro=o₁.ro)
  (A:∀x,iF S l o x->iF S l o₁ x):Inv S (fc U b o₁ vb o') w:=by
 have back:∀x q,(fc U b o₁ vb o').m.get x=some q->∃q',U.m.get x=some q'/\q.ro=q'.ro/\((x=b/\q=o₁)∨q=q'):=fun x q h=>by
  rw[Fc] at h
  by_cases e:x=vb
  ·rw[if_pos e] at h;cases h;exact⟨o',by rw[e];exact g,Z,.inr Z⟩
  rw[if_neg e] at h
  by_cases e':x=b
  ·rw[if_pos e'] at h;cases h;exact⟨o,by rw[e'];exact v,i.symm,.inl ⟨e',Z⟩⟩
  rw[if_neg e'] at h;cases h
 refine⟨⟨fun x d=>⟨(c.fresh x d).1,?_⟩,c.dE,fun x q lx d a=>?_,fun x y q r lx ly d j a k he n=>?_⟩,c.pI.size,c.pI.same,fun r f ⟨x,q,l',p,s,t,u⟩=>?_⟩
 ·cases C:(fc U b o₁ vb o').m.get x with
  | none=>rfl
  | some q=>
   obtain⟨q',h',_⟩:=back x q C;rw[(c.fresh x d).2] at h';cases h'
 ·obtain⟨q',h',_,h''⟩:=back x q d;obtain⟨y,j,f⟩:=c.obj x q' lx h' a;refine⟨y,j,?_⟩;rcases h'' with ⟨rfl,rfl⟩ | rfl
  ·rw[v] at h';cases h';rw[z] at a;cases a;exact A y f
  exact f
 ·obtain⟨q',p,s,_⟩:=back x q d;obtain⟨r',t,u,_⟩:=back y r j;rw[s,u];exact c.inj x y q' r' lx ly p t a k he n
 obtain⟨q',E,F,_⟩:=back x q p;exact c.pI.no r f ⟨x,q',l',E,by rw[<-F];exact s,t,u⟩
theorem GM (C:Inv S U w) {b vb:Pos} {cells cells' vc:List V} {e ve:Nat} {l lv:Loc} (hb:U.m.get b=some (.row cells e false)) (ab:U.m.get vb=some (.row vc ve false)) (ac:S b=some l) (d:S vb=some lv)
  (a4:b≠vb) {S1:dh} {U1:D} {w₁:World} (i₁:Inv S1 U1 w₁) (s₁:eY S (fc U b (.row cells' e false) vb (.row vc ve false)) w S1 U1 w₁) {b₁:Pos} {l₁:Loc} {cs₁:List V} {o₁ k:Nat}
  (g₁:U1.m.get b₁=some (.row cs₁ e false)) (hl₁:S1 b₁=some l₁) (gv:U1.m.get vb=some (.row vc ve false)) (hne₁:b₁≠vb) (ap:eH vc=true) (hk:o₁+k<=cs₁.length) (aq:eH ((cs₁.drop o₁).take k)=true):
  zx (S.with U.next ⟨l₁.dE,l₁.sh+o₁,l₁.cells-o₁⟩) ((U.drop b).alloc (.row ((cs₁.drop o₁).take k) e false)) w₁/\
   eY S U w (S.with U.next ⟨l₁.dE,l₁.sh+o₁,l₁.cells-o₁⟩) ((U.drop b).alloc (.row ((cs₁.drop o₁).take k) e false)) w₁:=by
 have hle:=C.vA ⟨l₁.dE,l₁.sh+o₁,l₁.cells-o₁⟩;have ag:((U.drop b).alloc (.row ((cs₁.drop o₁).take k) e false)).m.get U.next=some (.row ((cs₁.drop o₁).take k) e false):=N.dA _ _ _
 have R:∀x,x≠U.next->((U.drop b).alloc (.row ((cs₁.drop o₁).take k) e false)).m.get x=if x=b then none else U.m.get x:=fun x n=>by
  show((U.m.put none b).put _ U.next).get x=_;rw[N.dv _ _ _ _ n,N.lW]
 have pI:∀x q,x≠U.next->((U.drop b).alloc (.row ((cs₁.drop o₁).take k) e false)).m.get x=some q->x≠b/\U.m.get x=some q:=fun x q n h=>by
  rw[R x n] at h;split at h
  ·cases h
  rename_i E;exact⟨E,h⟩
 have hold:∀x lx,x≠U.next->(S.with U.next ⟨l₁.dE,l₁.sh+o₁,l₁.cells-o₁⟩) x=some lx->S x=some lx:=fun x lx n h=>by rwa[dh.dT S _ n] at h
 have ar:∀x:Pos,x.num<U.next.num->x≠U.next:=fun x n e=>by subst e;exact Nat.lt_irrefl _ n
 have am:∀r,Wr S (fc U b (.row cells' e false) vb (.row vc ve false)) r->r=l.dE∨r=lv.dE:=fun r ⟨x,q,lx,u,K,p,A⟩=>by
  rw[Fc] at u
  by_cases ev:x=vb
  ·subst ev;rw[d] at p;cases p;exact .inr A.symm
  rw[if_neg ev] at u
  by_cases eb:x=b
  ·subst eb;rw[ac] at p;cases p;exact .inl A.symm
  rw[if_neg eb] at u;cases u
 have wrs:∀r,Wr S (fc U b (.row cells' e false) vb (.row vc ve false)) r->Wr S U r:=fun r h=>by
  rcases am r h with rfl | rfl
  ·exact⟨b,_,l,hb,Z,ac,Z⟩
  exact⟨vb,_,lv,ab,Z,d,Z⟩
 have away:∀x q lx,x≠b->x≠vb->U.m.get x=some q->S x=some lx->lx.dE≠l.dE/\lx.dE≠lv.dE:=fun x q lx u K p A=>by
  constructor
  ·intro he;have:=(C.inj x b q _ lx l p hb A ac he u).2;simp[cG.ro] at this
  intro he;have:=(C.inj x vb q _ lx lv p ab A d he K).2;simp[cG.ro] at this
 have W:∀x q lx,x≠b->U.m.get x=some q->S x=some lx->lx.dE≠l₁.dE:=fun x q lx u p A he=>by
  have hlt:=C.dE x lx A;have hw:Wr S1 U1 lx.dE:=⟨b₁,_,l₁,g₁,Z,hl₁,he.symm⟩
  by_cases K:x=vb
  ·subst K;rw[d] at A;cases A;have F:S1 x=some lv:=s₁.ext x (C.Ef d) |>.trans d;have:=(i₁.inj b₁ x _ _ l₁ lv g₁ gv hl₁ F he.symm hne₁).1;simp[cG.ro] at this
  obtain⟨a1,a2⟩:=away x q lx u K p A;rcases am _ (s₁.wr _ hw hlt) with h | h
  ·exact a1 h
  exact a2 h
 have flatObj:∀{l':Loc} {c:List V} {e':Nat} {y:Obj} {Sa Sb:dh},eH c=true->iF Sa l' (.row c e' false) y->iF Sb l' (.row c e' false) y:=fun hc ho=>by
  obtain⟨c',fr,u,K,p,A,h5⟩:=ho;exact⟨c',fr,u,K,p,fun i v X=>let ⟨z,hz,ax⟩:=A i v X;⟨z,hz,nX (lg hc v<|gB_ X) ax⟩,h5⟩
 constructor
 ·refine⟨fun x n=>?_,fun x lx a=>?_,fun x q lx n a=>?_,fun x y q r lx ly n M a Q he aa=>?_⟩
  ·have t:U.next.num+1<=x.num:=by simpa [D.alloc,D.drop,Pos.jt] using n
   have f:x≠U.next:=fun e=>by subst e;omega
   have hf:=C.fresh x B;rw[dh.dT S _ f,R x f];exact⟨hf.1,by split<;>simp[hf.2]⟩
  ·by_cases f:x=U.next
   ·subst f;rw[dh.cZ] at a;cases a;exact i₁.dE b₁ l₁ hl₁
   exact Nat.lt_of_lt_of_le (C.dE x lx<|hold x lx f a) s₁.size
  ·by_cases f:x=U.next
   ·subst f;rw[ag] at n;rw[dh.cZ] at a;cases n;cases a;obtain⟨c,fr,u,K,p,A,h5⟩:=i₁.row g₁ hl₁;refine⟨_,u,c,fr,Z,?_,?_,fun i v X=>?_,fun _ j hj=>h5 Z j (by have a5:l₁.sh+o₁<=j:=hj;omega)⟩
    ·show c.size=l₁.sh+o₁+(l₁.cells-o₁);omega
    ·show((cs₁.drop o₁).take k).length<=l₁.cells-o₁;rw[lT_,lD_];omega
    have aI:cs₁[o₁+i]?=some v:=by
     rw[List.getElem?_take] at X;split at X
     ·rwa[List.getElem?_drop] at X
     cases X
    obtain⟨y,M,aY⟩:=A _ v aI;exact⟨y,by rw[<-Nat.add_assoc] at M;exact M,nX (lg aq v<|gB_ X) aY⟩
   obtain⟨E,t⟩:=pI x q f n;have hlx':=hold x lx f a
   by_cases ao:x=vb
   ·subst ao;rw[ab] at t;cases t;rw[d] at hlx';cases hlx';have F:S1 x=some lv:=(s₁.ext x<|C.Ef d).trans d;obtain⟨y,M,hr⟩:=i₁.obj x _ lv gv F;exact⟨y,M,flatObj ap hr⟩
   obtain⟨y,M,hr⟩:=C.obj x q lx t hlx';refine⟨y,?_,hr.mono hle⟩;rw[s₁.frame _ (C.dE x lx hlx') (fun h=>?_)]
   ·exact M
   obtain⟨a1,a2⟩:=away x q lx E ao t hlx';rcases am _ h with h | h
   ·exact a1 h
   exact a2 h
  by_cases L:x=U.next<;>by_cases e2:y=U.next
  ·exact absurd (L.trans e2.symm) aa
  ·subst L;rw[dh.cZ] at a;cases a;obtain⟨a0,a3⟩:=pI y r e2 M;exact absurd he.symm<|W y r ly a0 a3<|hold y ly e2 Q
  ·subst e2;rw[dh.cZ] at Q;cases Q;obtain⟨E,t⟩:=pI x q L n;exact absurd he<|W x q lx E t<|hold x lx L a
  exact C.inj x y q r lx ly (pI x q L n).2 (pI y r e2 M).2 (hold x lx L a) (hold y ly e2 Q) he aa
 refine⟨fun x n=>dh.dT S _ (ar x n),by simp[D.alloc,D.drop,Pos.jt],s₁.size,fun r hr hn=>s₁.frame r hr fun h=>hn (wrs r h),?_,s₁.tape,s₁.os,s₁.out⟩;rintro r ⟨x,q,lx,u,K,p,rfl⟩ hr
 by_cases L:x=U.next
 ·subst L;rw[dh.cZ] at p;cases p;exact wrs _ (s₁.wr _ ⟨b₁,_,l₁,g₁,Z,hl₁,Z⟩ hr)
 exact⟨x,q,lx,(pI x q L u).2,K,hold x lx L p,Z⟩
theorem DT (q:Inv S U w) {b vb:Pos} {cells cells' vc:List V} {e ve:Nat} {l lv:Loc} (r:U.m.get b=some (.row cells e false)) (c:U.m.get vb=some (.row vc ve false)) (d:S b=some l) (f:S vb=some lv)
  (h:b≠vb) {j:dh} {a:D} {w₁:World} (i₁:Inv j a w₁) (s₁:eY S (fc U b (.row cells' e false) vb (.row vc ve false)) w j a w₁) {b₁:Pos} {l₁:Loc} {cs₁:List V} {o₁ k:Nat}
  (g₁:a.m.get b₁=some (.row cs₁ e false)) (hl₁:j b₁=some l₁) (gv:a.m.get vb=some (.row vc ve false)) (hne₁:b₁≠vb) (n:eH vc=true) (t:o₁+k<=cs₁.length) (p:eH ((cs₁.drop o₁).take k)=true):
  Inv (S.with U.next ⟨l₁.dE,l₁.sh+o₁,l₁.cells-o₁⟩) ((U.drop b).alloc (.row ((cs₁.drop o₁).take k) e false)) w₁/\
   eY S U w (S.with U.next ⟨l₁.dE,l₁.sh+o₁,l₁.cells-o₁⟩) ((U.drop b).alloc (.row ((cs₁.drop o₁).take k) e false)) w₁:=q.of (GM q r c d f h i₁ s₁ g₁ hl₁ gv hne₁ n t p)
theorem Ee {r:KR} {v:V} {U':D} (h:sj r= .ret v U'):r= .ret v U':=by
 unfold sj at h;split at h
 ·cases h
 exact h
theorem Ed (r:KR) (v:V) (U':D):sj r≠ .mO v U':=by
 unfold sj;split
 ·intro h;cases h
 rename_i a;intro h;exact a _ _ h
theorem DK {ih:lf} (hS:Sound P G ih) {f:Nat} {args:List V} {xs:Array Value} {U':D} {v:V} (h:Fb P G ih f args U= .ret v U') (hi:Inv S U w) (hg:GR S G) (hx:dp S args xs.toList)
  (rl:Option Nat) (m:Nat) {R:Ending->World->Prop} (hR:∀(S':dh) (w':World) (x:Value),Inv S' U' w'->eY S U w S' U' w'->H S' v x->R (.returned x) w'):CallsIn (oO rl) m P f xs w R:=by
 unfold Fb at h;split at h
 ·rename_i b off n sz i vb voff q mc;split at h
  ·rename_i cells e vc ve hb L;rw[bA] at h;split at h
   ·rename_i hc;simp only[bA_,nE_,Nat.beq_eq,bK] at hc;obtain⟨M,a7,am,a8,ao,hlen⟩:=hc;subst am;have Q:b≠vb:=fun e=>by subst e;rw[pe] at M;simp at M
    split at h
    ·rename_i n1 r1 n2 r2 ap aq;rw[bA] at h;split at h
     ·rename_i hq;rw[bA_] at hq;have en:=nB hq.1;have er:=oK hq.2;subst en;subst er;cases h;obtain⟨x1,rr,e1,hs,ar⟩:=hx.cons_inv;obtain⟨x2,rr',rfl,ax,aI⟩:=ar.cons_inv;obtain⟨x3,rr'',rfl,W,aY⟩:=aI.cons_inv;have:=aY.eQ;subst this;simp only[H] at hs;obtain⟨l,hl,hd⟩:=hs
      have a0:∃c,x1= .slice (some ⟨l.dE,l.sh+off,none⟩) n c/\n<=c/\off+c*sz=l.cells:=by
       rcases hd with h | ⟨h0,_⟩
       ·exact h
       omega
      obtain⟨c,rfl,a9,t⟩:=a0;have hvv':=W;simp only[H] at hvv';obtain⟨lv,a1,_⟩:=hvv'
      have go:∀(cells':List V) (cap:pH) (okc:pH->Nat->Bool),(∀x,iF S l (.row cells e false) x->iF S l (.row cells' e false) x)->
        qN vb vc ve e sz (lj P G ih f [.slice b off n cap,i,.slice vb voff 1 (.known mc)]<|fc U b (.row cells' e false) vb (.row vc ve false)) okc=some (n1,r1)->
        H S (.slice b off n cap) (.slice (some ⟨l.dE,l.sh+off,none⟩) n c)->
        (∀A u y n1 l1 C x,okc A n1=true->1<=n1->C u=some l1->H C (.slice u y n1 A) x->∃c',x= .slice (some ⟨l1.dE,l1.sh+y,none⟩) n1 c'/\n1<=c'/\y+c'*sz=l1.cells)->
        CallsIn (oO rl) m P f xs w R:=by
       intro cells' cap okc X d aa a2;unfold qN at d;split at d
       ·rename_i u y bb A σ1 E;split at d
        ·rename_i be bi bl bm g1 gv;rw[bA] at d;split at d
         ·rename_i ab;simp only[bA_,nE_,Nat.beq_eq,bK] at ab;obtain⟨k1,k2,k3,k4,k5,k6,k7,k8⟩:=ab;cases d;have ac:u≠vb:=fun e=>by subst e;rw[pe] at k2;simp at k2
          have ev:=oK k3;subst ev;subst k4;subst k5;have hiL:=Lw hi (o₁:=.row cells' e false) hb L hl Z X;refine m8 hS E hiL hg ?_ rl m fun C w1 x i1 s1 r=>?_
          ·rw[e1];exact dp.cons aa<|dp.cons ax<|dp.cons W dp.nil
          obtain⟨l1,g⟩:∃l1,C u=some l1:=by
           cases A<;>simp only[H] at r
           ·obtain⟨l1,g,_⟩:=r;exact⟨l1,g⟩
           ·obtain⟨l1,g,_⟩:=r;exact⟨l1,g⟩
           obtain⟨l1,g,_⟩:=r;exact⟨l1,g⟩
          obtain⟨c',rfl,a3,bo⟩:=a2 A u y n1 l1 C x k1 k6 g r;rw[du,dO] at k8 hR;obtain⟨iJ,sJ⟩:=DT (k:=n1*sz) hi hb L hl a1 Q i1 s1 g1 g gv ac ao k7 k8;refine hR _ w1 _ iJ sJ ?_;simp only[H];refine⟨_,dh.cZ _ _ _,.inl ⟨c',Z,a3,?_⟩⟩;show 0+c'*sz=l1.cells-y;omega
         cases d
        cases d
       cases d
      by_cases a4:c=n
      ·subst a4;refine go cells (.known c) (DQ sz) (fun _ h=>h) ap (by simp only[H];exact⟨l,hl,Z⟩) fun A u y n1 l1 C x p h2 h3 F=>?_
       unfold DQ at p;split at p
       ·rename_i s;have:=nB p;subst this;simp only[H] at F;obtain⟨a5,K,⟨c',h6,h7,h8⟩ | ⟨h0,_⟩⟩:=F
        ·rw[h3] at K;cases K;exact⟨c',h6,h7,h8⟩
        omega
       cases p
      have ag:n+1<=c:=by omega
      refine go (ie (takeN cells (off+n*sz))<|FJ sz .any) (.least (Nat.succ n) sz) (zW sz) (fun x ho=>?_) aq (by simp only[H];exact⟨l,hl,c,Z,ag,t⟩) fun A u y n1 l1 C x p h2 h3 F=>?_
      ·obtain⟨cc,fr,p,h2,h3,F,K⟩:=ho;have hmul:(n+1)*sz<=c*sz:=nM_ _ ag;have bs:(n+1)*sz=n*sz+sz:=Nat.succ_mul n sz;refine⟨cc,fr,p,h2,?_,fun j v z=>?_,K⟩
       ·rw[dV,du,s8,lA_,lT_,List.length_replicate];omega
       rw[dV,du,s8] at z
       by_cases hj:j<off+n*sz
       ·rw[gL_ (by rw[lT_];omega),List.getElem?_take,if_pos hj] at z;exact F j v z
       have a6:j<(cells.take (off+n*sz)++List.replicate sz V.any).length:=(gA.1 z).1;rw[lA_,lT_,List.length_replicate] at a6;rw[gR_ (by rw[lT_];omega),List.getElem?_replicate] at z;split at z
       ·cases z;have:l.sh+j<cc.size:=by omega
        exact⟨cc[l.sh+j],aG_ this,by simp only[H]⟩
       cases z
      unfold zW at p;split at p
      ·rename_i a s;rw[bA_,nE_] at p;have:=nB p.1;subst this;simp only[H] at F;obtain⟨a5,K,c',h6,h7,h8⟩:=F;rw[h3] at K;cases K;exact⟨c',h6,Nat.le_trans p.2 h7,h8⟩
      cases p
     cases h
    cases h
   cases h
  cases h
 exact m8 hS h hi hg hx rl m hR
theorem GR.size (a:Inv S U w) (b:GR S G):G.gl<=w.heap.size:=by
 cases aa:G.gl with
 | zero=>exact Nat.zero_le _
 | succ g=>
  obtain⟨c,d⟩:=b g B;have:=a.dE _ _ d;exact this
theorem sQ (j:Inv S U w) (k:GR S G):∀(l:List (Nat×List V)),nD G.gl U l=true->∀x∈l,lB w x
 | [],_,x,a=>by cases a
 | y::l,h,x,a=>by
  have h':(bif Nat.ble (Nat.succ y.1) G.gl then(match U.m.get y.1 with
   | some (.row cells _ true)=>bif eH y.2 then(bif kS cells y.2 then nD G.gl U l else false) else false
   | _=>false) else false)=true:=h
  rw[bA] at h';split at h'
  ·rename_i b;rw[nE_] at b;split at h'
   ·rename_i cells e p;rw[bA] at h';split at h'
    ·rename_i q;rw[bA] at h';split at h'
     ·rename_i he;have:=oK he;subst this;rcases mQ_.1 a with rfl | a
      ·obtain⟨cn,r⟩:=k x.1 b;obtain⟨c,fr,s,t,u,A,_⟩:=j.row p r;have d:c.size=cn:=by simpa using t
       have f:x.2.length<=cn:=u;refine⟨c,e,fr,s,by rw[d];exact f,fun i v n=>?_⟩;obtain⟨z,o,g⟩:=A i v n;simp only[nA_] at o;exact⟨z,o,nX (lg q v<|gB_ n) g⟩
      exact sQ j k l h' x a
     cases h'
    cases h'
   cases h'
  cases h'
theorem vP {ih:lf} (b:Sound P G ih) {f:Nat} {args:List V} {xs:Array Value} {U':D} {v:V} (h:mw P G ih f args U= .ret v U') (a:Inv S U w) (c:GR S G) (d:dp S args xs.toList)
  (rl:Option Nat) (m:Nat) {R:Ending->World->Prop} (g:∀(S':dh) (w':World) (x:Value),Inv S' U' w'->eY S U w S' U' w'->H S' v x->R (.returned x) w'):CallsIn (oO rl) m P f xs w R:=by
 unfold mw at h;cases i:G.HB f args U with
 | some u=>
  rw[i] at h;dsimp only at h;rw[bA] at h;split at h
  ·rename_i j;cases h;refine sc rl<|callsIn_wide.2 ?_;refine(b.cx.HB f args U v i S w xs a d).mono fun e w' ⟨x,S',he,k,i',s'⟩=>?_
   subst he;exact g S' w' x i' s' k
  cases h
 | none=>
 rw[i] at h;dsimp only at h;cases l:G.HD f args with
 | some u=>
  rw[l] at h;dsimp only at h;rw[bA] at h;split at h
  ·rename_i j;simp only[bA_] at j;obtain⟨n,o,p⟩:=j;cases h;refine sc rl<|callsIn_wide.2 ?_;refine(b.cx.HD f args v l w xs (GR.size a c) ⟨a.pI.size,a.pI.same⟩ (sQ a c _ p)<|uo n d).mono fun e w' ⟨x,he,k,i⟩=>?_
   subst he;obtain⟨i',s'⟩:=i.inv a;exact g S w' x i' s'<|nX o k
  cases h
 | none=>
  rw[l] at h;dsimp only at h;split at h
  ·cases h
  rw[bA] at h;split at h
  ·have h:=Ee h;unfold pX at h;rw[bA] at h;split at h
   ·exact m8 b h a c d rl m g
   exact DK b h a c d rl m g
  exact m8 b h a c d rl m g
theorem HO {ih:lf} (b:Sound P G ih) {f:Nat} {args:List V} {xs:Array Value} {U':D} {v:V} (h:mw P G ih f args U= .mO v U') (c:Inv S U w) (d:GR S G) (e:dp S args xs.toList)
  (rl:Option Nat) (m:Nat) {R:Ending->World->Prop} (g:∀(S':dh) (w':World) (x:Value),Inv S' U' w'->eY S U w S' U' w'->H S' v x->R (.panicked [{v:=x,recovered:=false}]) w'):CallsIn (oO rl) m P f xs w R:=by
 unfold mw at h;cases a:G.HB f args U with
 | some u=>rw[a] at h;dsimp only at h;rw[bA] at h;split at h<;>cases h
 | none=>
 rw[a] at h;dsimp only at h;split at h
 ·rw[bA] at h;split at h<;>cases h
 split at h
 ·cases h
 rw[bA] at h;split at h
 ·exact absurd h<|Ed _ _ _
 exact yB b h (fun n h=>by cases h) c d e rl m fun S' w' E i s ⟨x,j,k⟩=>by subst j;exact g S' w' x i s k
theorem Gs {ih:lf} (e:Sound P G ih) {o:Oper} {r:HR} {res:Result Next} {v:V} {U':D} (f:Inv S U w) (g:GR S G) (j:xW P S U w r res) (h:lT P G ih r= .ret v U') (rl:Option Nat) (m:Nat) {a:Act} {next:Act->World->Prop} {Q:Exit->Act->World->Prop}
  (d:∀(S':dh) (w':World) (x:Value),Inv S' U' w'->eY S U w S' U' w'->H S' v x->next (a.put o.dst x) w'):o.uponIn (oO rl) m P a next Q res:=by
 cases j with
 | val c b st=>
  cases h;rw[Oper.uponIn_value];exact d _ _ _ b st c
 | skip b st=>
  cases h;rw[Oper.uponIn_skip];exact d _ _ _ b st vn
 | enter c=>
  rw[Oper.uponIn_enter];exact⟨yM rl m,vP e h f g c rl _ fun S' w' x i s q=>d S' w' x i s q⟩
 | round c hl hr=>cases h
 | mO c=>cases h
theorem KE {ih:lf} (f:Sound P G ih) {o:Oper} {r:HR} {res:Result Next} {v:V} {U':D} (d:Inv S U w) (g:GR S G) (j:xW P S U w r res) (h:lT P G ih r= .mO v U') (rl:Option Nat) (m:Nat) {a:Act} {next:Act->World->Prop} {Q:Exit->Act->World->Prop}
  (e:∀(S':dh) (w':World) (x:Value),Inv S' U' w'->eY S U w S' U' w'->H S' v x->Q (.panic [{v:=x,recovered:=false}]) a w'):o.uponIn (oO rl) m P a next Q res:=by
 cases j with
 | val b c st=>cases h
 | skip c st=>cases h
 | enter b=>
  rw[Oper.uponIn_enter];exact⟨yM rl m,HO f h d g b rl _ fun S' w' x i s q=>e S' w' x i s q⟩
 | round b hl hr=>cases h
 | mO b=>
  cases h;rw[Oper.uponIn_panic];exact e _ _ _ d (eY.refl _ _ _) b
theorem zM {ih:lf} {r:HR} {v:V} {U':D} (h:lT P G ih r= .mO v U') (n:Nat):r≠ .err n:=by
 intro e;subst e;cases h
theorem Lg {ih:lf} (b:Sound P G ih) {ev:Operand->Option V} {o:Oper} {a:Act} {v:V} {U':D} (c:Inv S U w) (d:GR S G) (e:ER S ev a.eval o.op) (h:lT P G ih (dW P G ev U o.op)= .mO v U') (rl:Option Nat) (m:Nat) {next:Act->World->Prop} {Q:Exit->Act->World->Prop}
  (g:∀(S':dh) (w':World) (x:Value),Inv S' U' w'->eY S U w S' U' w'->H S' v x->Q (.panic [{v:=x,recovered:=false}]) a w'):o.wpIn (oO rl) m P a w next Q:=by
 have hne:=zM h;refine⟨fun f _=>qJ rl f,?_⟩;rw[Oper.semAt_eq _ _ _<|uQ hne];exact KE b c d (Cg b.cx.ov c e Z hne) h rl m g
theorem BA {ih:lf} {r:HR} {v:V} {U':D} (h:lT P G ih r= .ret v U') (n:Nat):r≠ .err n:=by
 intro e;subst e;cases h
theorem Ce {ih:lf} (b:Sound P G ih) {ev:Operand->Option V} {o:Oper} {a:Act} {v:V} {U':D} (c:Inv S U w) (d:GR S G) (e:ER S ev a.eval o.op) (h:lT P G ih (dW P G ev U o.op)= .ret v U') (rl:Option Nat) (m:Nat) {next:Act->World->Prop} {Q:Exit->Act->World->Prop}
  (g:∀(S':dh) (w':World) (x:Value),Inv S' U' w'->eY S U w S' U' w'->H S' v x->next (a.put o.dst x) w'):o.wpIn (oO rl) m P a w next Q:=by
 have hne:=BA h;refine⟨fun f _=>qJ rl f,?_⟩;rw[Oper.semAt_eq _ _ _<|uQ hne];exact Gs b c d (Cg b.cx.ov c e Z hne) h rl m g
theorem tX {ih:lf} (u:Sound P G ih) {ops:Array Oper} {n m:Nat} {d:List DE} (rl:Option Nat) {Q:Exit->Act->World->Prop} {e:Ex} {t':N V} {d':List DE} {U':D}:
  ∀(l:List Oper) (i:Nat),ops.toList.drop i=l->∀(t:N V) (U:D) (S:dh) (w:World) (a:Act),ya d (sW P G ih ops n d l t U)= .ok e t' d' U'->Inv S U w->GR S G->TR S t n a.tmps->DR S d a.defers->
   (∀(S':dh) (w':World) (a':Act),Inv S' U' w'->eY S U w S' U' w'->TR S' t' n a'.tmps->DR S' d' a'.defers->Qx Q S' e a' w')->wpOpsIn (oO rl) m P ops Q (List.range' i l.length) a w
 | [],i,y,t,U,S,w,a,h,g,j,c,q,r=>by
  have h':CR.ok .normal t d U= .ok e t' d' U':=h;cases h';exact r S w a g (eY.refl _ _ _) c q _ Z
 | o::l,i,y,t,U,S,w,a,h,g,j,c,q,r=>by
  have z:ops[i]?=some o:=by
   rw[<-aT_];have:(ops.toList.drop i)[0]?=some o:=by rw[y];rfl
   simpa using this
  have s:ops.toList.drop (i+1)=l:=by
   rw[<-List.drop_drop,y];rfl
  have h':ya d (ju P G ih true ops n o t U<|sW P G ih ops n d l)= .ok e t' d' U':=h;unfold ju at h';simp only[List.length_cons,List.range'_succ,wpOpsIn,z];cases hw:bM ops t o with
  | none=>rw[hw] at h';cases h'
  | some b=>
   rw[hw] at h';rw[AI hw c];cases b with
   | false=>
    dsimp only at h';cases p:dI t n o.dst unit with
    | none=>rw[p] at h';cases h'
    | some t₁=>
     rw[p] at h';simp only[Bool.false_eq_true,if_false];exact⟨fun f _=>qJ rl f,tX u rl l (i+1) s t₁ U S w _ h' g j (c.put p vn) (by rw[put_defers];exact q) r⟩
   | true=>
    dsimp only at h';cases he:lT P G ih (dW P G (bE G t) U o.op) with
    | err k=>rw[he] at h';cases h'
    | mO v A=>
     rw[he] at h';have h':CR.ok (.mO v) t d A= .ok e t' d' U':=h';cases h';simp only[if_true];refine Lg u g j (LW _ j c) he rl m fun C w₁ x hi₁ st₁ E=>?_
     have hle:=st₁.le g;exact r C w₁ a hi₁ st₁ (c.mono hle) (q.mono hle) _ ⟨x,Z,E⟩
    | ret v A=>
     rw[he] at h';dsimp only at h';cases p:dI t n o.dst v with
     | none=>rw[p] at h';cases h'
     | some t₁=>
      rw[p] at h';simp only[if_true];refine Ce u g j (LW _ j c) he rl m fun C w₁ x hi₁ st₁ E=>?_
      have hle:=st₁.le g
      exact tX u rl l (i+1) s t₁ A C w₁ _ h' hi₁ (j.mono hle) ((c.mono hle).put p E) (by rw[put_defers];exact q.mono hle)
       fun S' w' a' i' s'=>r S' w' a' i' (st₁.trans s')
end
theorem xe {P:Program} {U U':D} (he:∀(b:Pos) (o:cG),U.m.get b=some o->U'.m.get b=some o) {u:Option TypeId} {x:Option V} {v:V} (h:sn P u U x=some v):sn P u U' x=some v:=by
 unfold sn at h⊢;cases x with
 | none=>cases h
 | some xv=>
  cases xv with
  | ptr b off=>
   dsimp only at h⊢;cases a:U.m.get b with
   | none=>rw[a] at h;cases h
   | some o=>rw[a] at h;rw[he b o a];exact h
  | _=>cases h
theorem He {P:Program} {ev:Operand->Option V} {U U':D} {op:Op} {v:V} (he:∀b o,U.m.get b=some o->U'.m.get b=some o) (h:gW P ev U op=some v):gW P ev U' op=some v:=by
 cases op with
 | load t x=>
  simp only[gW] at h⊢;cases f:ev x with
  | none=>rw[f] at h;cases h
  | some u=>
   rw[f] at h;cases u with
   | ptr b off=>
    dsimp only at h⊢;cases a:U.m.get b with
    | none=>rw[a] at h;cases h
    | some o=>rw[a] at h;rw[he b o a];exact h
   | _=>cases h
 | lookup t x i ok=>
  simp only[gW] at h⊢;split at h
  ·rename_i kt et k hu g;cases f:ev x with
   | none=>rw[f] at h;dsimp only at h;rw[bA] at h;split at h<;>cases h
   | some u=>
    rw[f] at h;cases u with
    | iR=>simpa only[hu,g] using h
    | map b=>
     dsimp only at h⊢;cases a:U.m.get b with
     | none=>rw[a] at h;dsimp only at h;rw[bA] at h;split at h<;>cases h
     | some o=>rw[a] at h;rw[he b o a];simpa only[hu,g] using h
    | _=>dsimp only at h;rw[bA] at h;split at h<;>cases h
  cases h
 | call c=>
  simp only[gW] at h⊢;split at h
  ·rename_i aa;split at h
   ·rename_i u1 u2 t x e1 e2;split at h
    ·rename_i u3 u4 kt et b hu f;cases a:U.m.get b with
     | none=>rw[a] at h;cases h
     | some o=>rw[a] at h;rw[he b o a];exact h
    ·exact h
    cases h
   cases h
  cases h
 | convert src dst x=>
  simp only[gW] at h⊢;split at h
  ·rename_i e hs hd;split at h
   ·rename_i j l;exact h
   ·rename_i b off len cap j l;rw[bA] at h⊢;split at h
    ·rename_i d;rw[if_pos d];exact h
    rename_i d;rw[if_neg d];cases a:U.m.get b with
    | none=>rw[a] at h;cases h
    | some o=>rw[a] at h;rw[he b o a];exact h
   cases h
  ·split at h
   ·rw[bA] at h⊢;split at h
    ·cases h
    rename_i d;rw[if_neg d];exact xe he h
   cases h
  ·rw[bA] at h⊢;split at h
   ·rename_i d;rw[if_pos d];exact xe he h
   cases h
  cases h
 | _=>exact h
theorem ra {ops:Array Oper} {i j:Nat}:waits ops i j=true↔∃o,ops[i]?=some o/\∃e∈o.after,Region.binds .any e=true/\e.on=j:=by
 unfold waits;cases h:ops[i]? with
 | none=>simp
 | some o=>
  simp only[Option.map_some,Option.getD_some,oJ_,exists_eq_left',bA_,beq_iff_eq,Array.any_iff_exists];constructor
  ·rintro ⟨q,a,_,_,b⟩;exact⟨_,Array.getElem_mem a,b⟩
  rintro ⟨e,he,b⟩;obtain⟨q,a,rfl⟩:=Array.getElem_of_mem he;exact⟨q,a,Nat.zero_le _,a,b⟩
structure Shape (P:Program) (ops:Array Oper) (A:Array Nat):Prop where
 dep:∀i j,waits ops i j=true->j<ops.size
 ru:∀i j,i<ops.size->j<ops.size->ru A i j=true->waits ops i j=true∨∃d,waits ops i d=true/\Ev.ru A d j=true
 uniq:∀i j k,fe ops i=some k->fe ops j=some k->i=j
 look:∀(i:Nat) (o:Oper) (j k:Nat),ops[i]?=some o->fe ops j=some k->k∈slotsOf ops o->Ev.ru A i j=true∨(gu P ops i=false/\(j=i∨Ev.ru A j i=true))
 dst:∀(i:Nat) (o:Oper),ops[i]?=some o->gu P ops i=true->∃k,o.dst=some k
theorem mA {ops:Array Oper} {i k:Nat} (h:fe ops i=some k):i<ops.size:=by
 unfold fe at h;cases a:ops[i]? with
 | none=>rw[a] at h;cases h
 | some o=>exact(aS_.1 a).1
theorem iM {ops:Array Oper} {i:Nat} {o:Oper} (h:ops[i]?=some o):fe ops i=o.dst:=by simp[fe,h]
theorem jx (m i:Nat):hasB m i=m.testBit i:=by
 rw[Nat.testBit_eq_decide_div_mod_eq];show Nat.beq ((m >>> i) &&& 1) 1=_;rw[Nat.and_one_is_mod,Nat.shiftRight_eq_div_pow];cases h:Nat.beq (m/2 ^ i%2) 1 with
 | true=>exact(decide_eq_true<|nB h).symm
 | false=>exact(decide_eq_false (fun e=>by rw[e] at h;cases h)).symm
theorem Na (w:Nat):Nat.beq (Nat.land w 1) 1=w.testBit 0:=by
 have:=jx w 0;exact this
theorem uw (i j:Nat):(bit i).testBit j=decide (i=j):=by
 show(1 <<< i).testBit j=_;rw[Nat.one_shiftLeft,Nat.testBit_two_pow]
theorem ni (m k j:Nat):(Nat.lor m k).testBit j=(m.testBit j || k.testBit j):=Nat.testBit_or m k j
theorem kH {j:Nat}:∀{l:List Nat},(nG l).testBit j=true↔j∈l
 | []=>by simp[nG]
 | i::l=>by
  show(Nat.lor (bit i)<|nG l).testBit j=true↔_;rw[ni,uw,Bool.or_eq_true,kH,mQ_,decide_eq_true_eq];exact⟨fun h=>h.imp Eq.symm id,fun h=>h.imp Eq.symm id⟩
theorem zg {m k:Nat} (h:yq m k=true) (j:Nat) (a:m.testBit j=true):k.testBit j=true:=by
 have e:m &&& k=m:=nB h;rw[<-e,Nat.testBit_and,bA_] at a;exact a.2
theorem EB {m k:Nat} (h:yq m k=false):∃j,m.testBit j=true/\k.testBit j=false:=by
 apply Classical.byContradiction;intro a
 have e:m &&& k=m:=Nat.eq_of_testBit_eq fun j=>by
  rw[Nat.testBit_and];cases hm:m.testBit j with
  | false=>rfl
  | true=>
   cases b:k.testBit j with
   | true=>rfl
   | false=>exact absurd ⟨j,hm,b⟩ a
 have:yq m k=true:=by
  show Nat.beq (m &&& k) m=true;rw[e];exact Nat.beq_refl m
 rw[this] at h;cases h
theorem rM {j:Nat}:∀{L:List RA} {w:Nat},(w0 L w).testBit j=true->∃d x,L[d]?=some x/\w.testBit d=true/\x.a.testBit j=true
 | [],w,h=>by simp[w0] at h
 | x::L,w,h=>by
  have h':(Nat.lor (@Bool.rec (fun _=>Nat) 0 x.a<|Nat.beq (Nat.land w 1) 1)<|w0 L<|w >>> 1).testBit j=true:=h;rw[ni,Bool.or_eq_true,Na] at h';rcases h' with h' | h'
  ·cases hw:w.testBit 0 with
   | true=>rw[hw] at h';exact⟨0,x,Z,hw,h'⟩
   | false=>
    rw[hw] at h';have h'':(0:Nat).testBit j=true:=h';simp at h''
  obtain⟨d,y,c,b,e⟩:=rM h';rw[Nat.testBit_shiftRight] at b;exact⟨d+1,y,by simpa using c,by rw[Nat.add_comm];exact b,e⟩
theorem sq:∀(rows:List Row) (L:List RA),(Jo rows L).map (·.r)=L.map (·.r)++rows
 | [],L=>by show L.map (·.r)=_;simp
 | r::rows,L=>by
  show(Jo rows<|ie L [⟨r,Nat.lor r.w<|w0 L r.w⟩]).map (·.r)=_
  rw[sq rows,dV];simp
theorem Ag {P:Program} {ops:Array Oper} {i:Nat} {o:Oper} (h:ops[i]?=some o):∃x,(jd P ops)[i]?=some x/\x.r=xw P ops o:=by
 have e:=sq (yd (xw P ops) ops.toList) [];rw[lY] at e
 have e':((jd P ops).map (·.r))[i]?=some (xw P ops o):=by
  unfold jd;rw[lY,e];simp[h]
 rw[gM_] at e';cases a:(jd P ops)[i]? with
 | none=>rw[a] at e';cases e'
 | some x=>rw[a] at e';exact⟨x,Z,by simpa using e'⟩
theorem Jp {P:Program} {ops:Array Oper} {i:Nat} {x:RA} (h:(jd P ops)[i]?=some x):∃o,ops[i]?=some o/\x.r=xw P ops o:=by
 have e:=sq (yd (xw P ops) ops.toList) [];rw[lY] at e
 have e':((jd P ops).map (·.r))[i]?=ops[i]?.map (xw P ops):=by
  unfold jd;rw[lY,e];simp
 rw[gM_,h] at e';cases a:ops[i]? with
 | none=>rw[a] at e';cases e'
 | some o=>rw[a] at e';exact⟨o,Z,by simpa using e'⟩
theorem Cs {P:Program} {ops:Array Oper} {i j:Nat} {o:Oper} (h:ops[i]?=some o):(xw P ops o).w.testBit j=true↔waits ops i j=true:=by
 rw[ra];show(nG _).testBit j=true↔_;rw[kH,List.mem_filterMap];constructor
 ·rintro ⟨e,he,a⟩;split at a
  ·rename_i c;cases a;exact⟨o,h,e,by simpa using he,c,Z⟩
  cases a
 rintro ⟨o',b,e,he,a,rfl⟩;rw[h] at b;cases b;exact⟨e,by simpa using he,by rw[if_pos a]⟩
theorem yw {α:Type} {f:Nat->α->Bool}:∀{l:List α} {i:Nat},allI f l i=true->∀(j:Nat) (x:α),l[j]?=some x->f (i+j) x=true
 | [],i,_,j,x,a=>by simp at a
 | y::l,i,h,j,x,a=>by
  have h': @Bool.rec (fun _=>Bool) false (allI f l (i+1)) (f i y)=true:=h;cases b:f i y with
  | false=>rw[b] at h';cases h'
  | true=>
   rw[b] at h';cases j with
   | zero=>simp at a;subst a;exact b
   | succ j=>
    have:=yw h' j x (by simpa using a);rw[show i+(j+1)=i+1+j by omega];exact this
theorem qD {α:Type} {f:Nat->α->Bool} {l:List α} (h:allI f l 0=true) (j:Nat) (x:α) (a:l[j]?=some x):f j x=true:=by
 have:=yw h j x a;rwa[nA_] at this
theorem mq {a b:Bool} (h:(bif a then b else false)=true):a=true/\b=true:=by cases a<;>simp_all
def zB (P:Program) (ops:Array Oper):Array Nat:=((jd P ops).map (·.a)).toArray
theorem sA {P:Program} {ops:Array Oper} {i j:Nat} {x:RA} (h:(jd P ops)[i]?=some x):ru (zB P ops) i j=x.a.testBit j:=by
 unfold ru zB
 have:(((jd P ops).map (·.a)).toArray).getD i 0=x.a:=by
  rw[Array.getD_eq_getD_getElem?];simp[h]
 rw[this]
theorem BR {P:Program} {ops:Array Oper} {i:Nat} {o:Oper} (h:ops[i]?=some o):jX P ops i=(xw P ops o).h:=by unfold jX;rw[h];rfl
theorem wU {P:Program} {ops:Array Oper} {i:Nat} {o:Oper} (h:ops[i]?=some o):gu P ops i=(xw P ops o).k:=by unfold gu;rw[h];rfl
theorem Eh {i j:Nat} {x y:RA} (h:Ji i x j y=true) (c:y.r.dm=nG y.r.d.toList):Ch i x j y=true:=by
 unfold Ji at h;cases b:Nat.beq (Nat.land (Nat.lor x.r.dm x.r.s) y.r.dm) 0 with
 | false=>rw[b] at h;exact h
 | true=>
  have e:(x.r.dm ||| x.r.s) &&& y.r.dm=0:=nB b;unfold Ch;cases f:y.r.d with
  | none=>rfl
  | some k=>
   have g:y.r.dm.testBit k=true:=by rw[c,f];exact kH.2 (by simp)
   have a:((x.r.dm ||| x.r.s) &&& y.r.dm).testBit k=false:=by rw[e];exact Nat.zero_testBit k
   rw[Nat.testBit_and,g,Bool.and_true,Nat.testBit_or,Bool.or_eq_false_iff] at a;have l:hasB x.r.dm k=false:=by rw[jx];exact a.1
   have m:hasB x.r.s k=false:=by rw[jx];exact a.2
   dsimp only;rw[l,m];rfl
theorem Jz {P:Program} {ops:Array Oper} (h:Jy (jd P ops) ops.size=true):Shape P ops (zB P ops):=by
 have key:∀i o,ops[i]?=some o->∃x,(jd P ops)[i]?=some x/\x.r=xw P ops o/\x.r.w<2 ^ ops.size/\(x.r.k=true->x.r.d.isSome=true)/\yq x.a (Nat.lor x.r.w<|w0 (jd P ops) x.r.w)=true/\
   ∀j y,(jd P ops)[j]?=some y->Ch i x j y=true:=by
  intro i o b;obtain⟨x,g,e⟩:=Ag (P:=P) b;have h1:=qD h i x g;obtain⟨F,h1⟩:=mq h1;obtain⟨k2,h1⟩:=mq h1;obtain⟨M,h1⟩:=mq h1;refine⟨x,g,e,?_,fun q=>?_,M,fun j y m=>Eh (qD h1 j y m) (by obtain⟨o',_,n⟩:=Jp m;rw[n];rfl)⟩
  ·rw[sE] at F;have:bit ops.size=2 ^ ops.size:=Nat.one_shiftLeft _;rw[<-this];exact F
  rw[q] at k2;exact k2
 have pair:∀i o j o' k,ops[i]?=some o->ops[j]?=some o'->o'.dst=some k->(o.dst=some k->j=i)/\(k∈slotsOf ops o->ru (zB P ops) i j=true∨(gu P ops i=false/\(j=i∨ru (zB P ops) j i=true))):=by
  intro i o j o' k b c q;obtain⟨x,g,e,_,_,_,Q⟩:=key i o b;obtain⟨y,m,n⟩:=Ag (P:=P) c;have h1:=Q j y m;unfold Ch at h1;have v:y.r.d=some k:=by rw[n];exact q
  rw[v] at h1;have z:(bif (bif hasB x.r.dm k then Nat.beq j i else true) then(bif hasB x.r.s k then(bif hasB x.a j then true else(bif x.r.k then false else(bif Nat.beq j i then true else hasB y.a i))) else true) else false)=true:=h1;obtain⟨g1,f⟩:=mq z;refine⟨fun A=>?_,fun C=>?_⟩
  ·have:hasB x.r.dm k=true:=by
    rw[jx,e];show(nG o.dst.toList).testBit k=true;rw[kH,A];simp
   rw[this] at g1;exact nB g1
  have:hasB x.r.s k=true:=by
   rw[jx,e];exact kH.2 C
  rw[this] at f;simp only[cond_true] at f;rw[sA g,sA m,wU (P:=P) b,<-e];cases p:hasB x.a j with
  | true=>rw[jx] at p;exact .inl p
  | false=>
   rw[p] at f;simp only[cond_false] at f;cases t:x.r.k with
   | true=>rw[t] at f;cases f
   | false=>
    rw[t] at f;simp only[cond_false] at f;cases G:Nat.beq j i with
    | true=>exact .inr ⟨Z,.inl<|nB G⟩
    | false=>rw[G] at f;rw[jx] at f;exact .inr ⟨Z,.inr f⟩
 refine⟨fun i j hw=>?_,fun i j u l p=>?_,fun i j k u l=>?_,fun i o j k b l q=>?_,fun i o b K=>?_⟩
 ·obtain⟨o,b,_⟩:=ra.1 hw;obtain⟨x,g,e,E,_⟩:=key i o b;have:x.r.w.testBit j=true:=by rw[e];exact(Cs b).2 hw
  apply Classical.byContradiction;intro hn;rw[Nat.testBit_lt_two_pow<|Nat.lt_of_lt_of_le E<|Nat.pow_le_pow_right B B] at this;cases this
 ·have b:ops[i]?=some ops[i]:=aG_ u;obtain⟨x,g,e,_,_,C,_⟩:=key i _ b;rw[sA g] at p;have h1:=zg C j p;rw[ni,Bool.or_eq_true] at h1;rcases h1 with h1 | h1
  ·rw[e] at h1;exact .inl ((Cs b).1 h1)
  obtain⟨d,y,m,L,R⟩:=rM h1;rw[e] at L;exact .inr ⟨d,(Cs b).1 L,by rw[sA m];exact R⟩
 ·have hi':=mA u;have hj':=mA l;have b:ops[i]?=some ops[i]:=aG_ hi';have c:ops[j]?=some ops[j]:=aG_ hj';rw[iM b] at u;rw[iM c] at l;exact((pair i _ j _ k b c l).1 u).symm
 ·have hj':=mA l;have c:ops[j]?=some ops[j]:=aG_ hj';rw[iM c] at l;exact(pair i o j _ k b c l).2 q
 obtain⟨x,g,e,_,v,_⟩:=key i o b;rw[wU (P:=P) b,<-e] at K;have:=v K;rw[e] at this;exact Option.isSome_iff_exists.1 this
def Ord (ops:Array Oper):List Nat->Prop
 | []=>True
 | i::r=>(∀j,waits ops i j=true->j∈r)/\Ord ops r
structure HH (P:Program) (ops:Array Oper) (A:Array Nat) (i:Nat) (rc:List Nat) (done:List Nat):Prop where
 lt:i<ops.size
 new:i∉done
 dep:∀j,waits ops i j=true->j∈done
 again:jX P ops i=true->∀j∈done,gu P ops j=true->ru A i j=true∨j∈rc
 alone:jX P ops i=true->∀j,j<ops.size->j∉done->j≠i->∃e,waits ops j e=true/\e∉done
def ES (P:Program) (ops:Array Oper) (A:Array Nat):List (Nat×List Nat)->List Nat->Prop
 | [],done=>∀i,i<ops.size->i∈done
 | (i,rc)::l,done=>HH P ops A i rc done/\ES P ops A l (i::done)
theorem vZ {P:Program} {ops:Array Oper}:∀(p:List (Nat×List Nat)) (D_:Nat) (done:List Nat),(∀j,D_.testBit j=true↔j∈done)->Dl (jd P ops) ops.size p D_=true->ES P ops (zB P ops) p done
 | [],D_,done,c,h=>fun i d=>by
  have e:D_=bit ops.size-1:=nB h;rw[<-c,e,show bit ops.size=2 ^ ops.size from Nat.one_shiftLeft _,Nat.testBit_two_pow_sub_one];exact decide_eq_true d
 | (i,rc)::l,D_,done,c,h=>by
  have h':Option.rec (motive:=fun _=>Bool) false (fun x=>bif IE (jd P ops) i rc D_ x then Dl (jd P ops) ops.size l (Nat.lor D_<|bit i) else false) (nth (jd P ops) i)=true:=h;rw[eF] at h';cases u:(jd P ops)[i]? with
  | none=>rw[u] at h';cases h'
  | some x=>
  rw[u] at h';obtain⟨k,L⟩:=mq h';obtain⟨o,v,C⟩:=Jp u;have hlt:=(aS_.1 v).1;unfold IE at k;cases d:hasB D_ i with
  | true=>rw[d] at k;cases k
  | false=>
  rw[d] at k;obtain⟨hw,z⟩:=mq k;refine⟨⟨hlt,fun hm=>?_,fun j m=>?_,fun n j m q=>?_,fun n j m M E=>?_⟩,vZ l _ (i::done) (fun j=>?_) L⟩
  ·rw[jx] at d;rw[(c i).2 hm] at d;cases d
  ·exact(c j).1 (zg hw j (by rw[C];exact(Cs v).2 m))
  ·rw[BR (P:=P) v,<-C] at n;rw[n] at z
   have s:∃o',ops[j]?=some o':=by
    cases b:ops[j]? with
    | some o'=>exact⟨o',Z⟩
    | none=>unfold gu at q;rw[b] at q;cases q
   obtain⟨o',b⟩:=s;obtain⟨y,F,f⟩:=Ag (P:=P) b;have h4:=qD z j y F;have g:hasB D_ j=true:=by rw[jx];exact(c j).2 m
   rw[g] at h4;simp only[cond_true] at h4;rw[sA u];cases G:hasB x.a j with
   | true=>rw[jx] at G;exact .inl G
   | false=>
    rw[G] at h4;rw[wU (P:=P) b,<-f] at q;rw[q] at h4;simp only[cond_true,cond_false] at h4;rw[jx] at h4;exact .inr<|kH.1 h4
  ·rw[BR (P:=P) v,<-C] at n;rw[n] at z;have b:ops[j]?=some ops[j]:=aG_ m;obtain⟨y,F,f⟩:=Ag (P:=P) b;have h4:=qD z j y F
   have g:hasB D_ j=false:=by
    rw[jx];cases A:D_.testBit j with
    | false=>rfl
    | true=>exact absurd ((c j).1 A) M
   rw[g] at h4;simp only[cond_false] at h4;cases A:Nat.beq j i with
   | true=>exact absurd (nB A) E
   | false=>
    rw[A] at h4;simp only[cond_false] at h4;cases t:yq y.r.w D_ with
    | true=>rw[t] at h4;cases h4
    | false=>
     obtain⟨e,g1,K⟩:=EB t;rw[f] at g1;exact⟨e,(Cs b).1 g1,fun hm=>by rw[(c e).2 hm] at K;cases K⟩
  rw[ni,uw,Bool.or_eq_true,c,mQ_,decide_eq_true_eq];exact⟨fun h=>h.elim .inr (fun h=>.inl h.symm),fun h=>h.elim (fun h=>.inr h.symm) .inl⟩
theorem KJ {P:Program} {ops:Array Oper} (h:sb P ops=true):Shape P ops (zB P ops)/\ES P ops (zB P ops) (jB P ops) []:=by
 obtain⟨a,b⟩:=mq h;exact⟨Jz a,vZ _ 0 [] (fun j=>by simp) b⟩
def Li (listed:Array Bool) (i:Nat):Prop:=listed.getD i false=true
theorem Li.lt {listed:Array Bool} {i:Nat} (h:Li listed i):i<listed.size:=by
 unfold Li at h;rcases Nat.lt_or_ge i listed.size with h' | h'
 ·exact h'
 simp[Array.getD_eq_getD_getElem?,Array.getElem?_eq_none h'] at h
theorem I9 {listed:Array Bool} {i:Nat} (a:i<listed.size):listed.getD i true=false↔¬Li listed i:=by
 simp[Li,Array.getD_eq_getD_getElem?,a]
theorem zy {listed:Array Bool} {i j:Nat} (a:i<listed.size):Li (listed.setIfInBounds i true) j↔j=i∨Li listed j:=by
 unfold Li;simp only[Array.getD_eq_getD_getElem?,Array.getElem?_setIfInBounds]
 by_cases e:i=j
 ·subst e;simp[a]
 simp[e,Ne.symm e]
def dE:V->Option Pos
 | .ptr b _=>some b
 | .slice b _ _ _=>some b
 | .map b=>some b
 | _=>none
theorem zE (mk:Mk) (b:Pos):dE (mk.of b)=some b:=by cases mk<;>rfl
def m6 (P:Program) (G:Cx) (t:N V) (U:D) (S:dh) (lo:Nat) (ti:N V) (o:Oper):Prop:=
 match kindOf P o.op with
 | .pure=>∃v,di P (bE G ti) o.op=some v/\∀k,o.dst=some k->t.get (posOf k)=some v
 | .read=>∃v,gW P (bE G ti) U o.op=some v/\∀k,o.dst=some k->t.get (posOf k)=some v
 | .alloc=>∃ob mk b,gi P (bE G ti) o.op=some (ob,mk)/\U.m.get b=some ob/\S b=none/\lo<=b.num/\b.num<U.next.num/\∀k,o.dst=some k->t.get (posOf k)=some (mk.of b)
 | .jW=>False
def ri (P:Program) (G:Cx) (ops:Array Oper) (A:Array Nat) (t₀ t:N V) (U:D) (S:dh) (lo:Nat) (i:Nat):Prop:=
 ∃o ti,ops[i]?=some o/\
  (∀k∈slotsOf ops o,∀j,ru A i j=true->fe ops j=some k->ti.get (posOf k)=t.get (posOf k))/\
  (∀k∈slotsOf ops o,(∀j,fe ops j=some k->ru A i j=false)->ti.get (posOf k)=t₀.get (posOf k))/\
  ∃bw,bM ops ti o=some bw/\(bw=false->∀k,o.dst=some k->t.get (posOf k)=some unit)/\(bw=true->m6 P G t U S lo ti o)
section
variable {P:Program} {G:Cx} {ops:Array Oper} {A:Array Nat} {t₀ t t₁:N V} {U U1:D} {S S1:dh} {lo i:Nat}
theorem wG {o:Oper} {j:Nat} {want:Bool} {k:Nat} (a:o.guard=some (j,want)) (b:(ops[j]?).bind (·.dst)=some k):k∈slotsOf ops o:=by
 unfold slotsOf;rw[a];simp[b]
theorem z8 {o:Oper} {k:Nat} (h:Operand.tmp k∈o.op.operands):k∈slotsOf ops o:=by
 unfold slotsOf;refine List.mem_append_left _<|List.mem_filterMap.2 ⟨.tmp k,by simpa using h,Z⟩
theorem kX {o:Oper} {ti tj:N V} (h:∀k∈slotsOf ops o,ti.get (posOf k)=tj.get (posOf k)):bM ops ti o=bM ops tj o:=by
 unfold bM;cases a:o.guard with
 | none=>rfl
 | some jw=>
  obtain⟨j,want⟩:=jw;dsimp only;cases b:(ops[j]?).bind (·.dst) with
  | none=>rfl
  | some k=>dsimp only;rw[h k<|wG a b]
theorem ri.LX (m:ri P G ops A t₀ t U S lo i) (h:∀k,(fe ops i=some k∨∃j,ru A i j=true/\fe ops j=some k)->t₁.get (posOf k)=t.get (posOf k)):ri P G ops A t₀ t₁ U S lo i:=by
 obtain⟨o,ti,f,n,p,bw,q,r,s⟩:=m;have d:∀k,o.dst=some k->t₁.get (posOf k)=t.get (posOf k):=fun k a=>h k (.inl (by rw[iM f];exact a))
 refine⟨o,ti,f,fun k a j g l=>(n k a j g l).trans (h k (.inr ⟨j,g,l⟩)).symm,p,bw,q,fun e k a=>(d k a).trans (r e k a),fun e=>?_⟩;have:=s e;unfold m6 at this⊢;split at this
 ·obtain⟨v,g1,c⟩:=this;exact⟨v,g1,fun k a=>(d k a).trans (c k a)⟩
 ·obtain⟨v,g1,c⟩:=this;exact⟨v,g1,fun k a=>(d k a).trans (c k a)⟩
 ·obtain⟨ob,mk,b,g1,c,u,w,x,y⟩:=this;exact⟨ob,mk,b,g1,c,u,w,x,fun k a=>(d k a).trans (y k a)⟩
 exact this
theorem ri.grow (c:ri P G ops A t₀ t U S lo i) (h:∀b o,U.m.get b=some o->U1.m.get b=some o) (hn:U.next.num<=U1.next.num):ri P G ops A t₀ t U1 S lo i:=by
 obtain⟨o,ti,d,e,f,bw,g,j,k⟩:=c;refine⟨o,ti,d,e,f,bw,g,j,fun l=>?_⟩;have:=k l;unfold m6 at this⊢;split at this
 ·exact this
 ·obtain⟨v,g1,a⟩:=this;exact⟨v,He h g1,a⟩
 ·obtain⟨ob,mk,b,g1,a,n,p,g5,q⟩:=this;exact⟨ob,mk,b,g1,h b ob a,n,p,by omega,q⟩
 exact this
theorem ri.Qw (f:ri P G ops A t₀ t U S lo i) (g:Shape P ops A) (h:∀b,(∃o k v,ops[i]?=some o/\kindOf P o.op= .alloc/\fe ops i=some k/\t.get (posOf k)=some v/\dE v=some b)->S b=none->S1 b=none):ri P G ops A t₀ t U S1 lo i:=by
 obtain⟨o,ti,a,j,l,bw,m,n,p⟩:=f;refine⟨o,ti,a,j,l,bw,m,n,fun q=>?_⟩;have:=p q;unfold m6 at this⊢;split at this
 ·exact this
 ·exact this
 ·rename_i d;obtain⟨ob,mk,b,g1,r,s,u,w,e⟩:=this;obtain⟨k,c⟩:=g.dst i o a (by simp[gu,tT,a,d]);exact⟨ob,mk,b,g1,r,h b ⟨o,k,_,a,d,by rw[iM a];exact c,e k c,zE mk b⟩ s,u,w,e⟩
 exact this
theorem ri.again (hp:ri P G ops A t₀ t U S lo i) (X:Shape P ops A) (h:∀k,(fe ops i=some k∨∃j,ru A i j=true/\fe ops j=some k)->t₁.get (posOf k)=t.get (posOf k))
  (h0:∀k,(∀j,fe ops j≠some k)->t₁.get (posOf k)=t₀.get (posOf k)) (g:gu P ops i=true->jh P G ops t₁ U1 i=true)
  (hr:∀b:Pos,b.num<U.next.num->S1 b=S b) (hn:U.next.num<=U1.next.num):ri P G ops A t₀ t₁ U1 S1 lo i:=by
 have hp1:=hp.LX h;obtain⟨o,ti,p,L,y,bw,z,h4,h5⟩:=hp1;cases M:bw with
 | false=>exact⟨o,ti,p,L,y,bw,z,h4,fun Q=>absurd Q (by rw[M];simp)⟩
 | true=>
  have hv:=h5 M;subst M;cases q:kindOf P o.op with
  | pure=>
   refine⟨o,ti,p,L,y,true,z,h4,fun _=>?_⟩;unfold m6 at hv⊢;rw[q] at hv⊢;exact hv
  | jW=>unfold m6 at hv;rw[q] at hv;exact hv.elim
  | read=>
   have C:gu P ops i=true:=by simp[gu,tT,p,q]
   have f:∀k∈slotsOf ops o,t₁.get (posOf k)=ti.get (posOf k):=fun k a=>by
    by_cases hw:∃j,fe ops j=some k
    ·obtain⟨j,d⟩:=hw;rcases X.look i o j k p d a with r | ⟨m,_⟩
     ·exact(L k a j r d).symm
     rw[C] at m;cases m
    rw[h0 k (fun j d=>hw ⟨j,d⟩),y k a (fun j d=>absurd ⟨j,d⟩ hw)]
   have aq:=g C;unfold jh at aq;rw[p] at aq;dsimp only at aq;rw[kX f,z] at aq;dsimp only at aq;refine⟨o,t₁,p,fun _ _ _ _ _=>Z,fun k a d=>(f k a).trans (y k a d),true,by rw[kX f];exact z,fun h'=>(by cases h'),fun _=>?_⟩;unfold m6;rw[q];split at aq
   ·rename_i k s;split at aq
    ·rename_i v R;rw[q] at aq;dsimp only at aq;split at aq
     ·rename_i u hu;have:=Kl aq;subst this;exact⟨u,hu,fun k' E=>by rw[s] at E;cases E;exact R⟩
     cases aq
    cases aq
   cases aq
  | alloc=>
   have C:gu P ops i=true:=by simp[gu,tT,p,q]
   have f:∀k∈slotsOf ops o,t₁.get (posOf k)=ti.get (posOf k):=fun k a=>by
    by_cases hw:∃j,fe ops j=some k
    ·obtain⟨j,d⟩:=hw;rcases X.look i o j k p d a with r | ⟨m,_⟩
     ·exact(L k a j r d).symm
     rw[C] at m;cases m
    rw[h0 k (fun j d=>hw ⟨j,d⟩),y k a (fun j d=>absurd ⟨j,d⟩ hw)]
   have aq:=g C;unfold jh at aq;rw[p] at aq;dsimp only at aq;rw[kX f,z] at aq;dsimp only at aq;refine⟨o,t₁,p,fun _ _ _ _ _=>Z,fun k a d=>(f k a).trans (y k a d),true,by rw[kX f];exact z,fun h'=>(by cases h'),fun _=>?_⟩;unfold m6 at hv⊢;rw[q] at hv⊢;dsimp only at hv⊢;obtain⟨ob,mk,b,g1,g2,g3,g4,g5,W⟩:=hv;split at aq
   ·rename_i k s;have g6':=W k s;rw[g6'] at aq;dsimp only at aq;rw[q] at aq;dsimp only at aq;have F:S1 b=none:=by rw[hr b g5];exact g3
    split at aq
    ·rename_i cs e b' r l;split at aq
     ·rename_i cs' e' w;rw[bA_] at aq;have e1:=nB aq.1;have e2:=vo aq.2;subst e1;subst e2;have K:b'=b:=by cases mk<;>simp[Mk.of] at l<;>exact l.symm
      have x:mk= .ptr:=by cases mk<;>simp[Mk.of] at l<;>rfl
      subst K;subst x;exact⟨_,_,b',r,w,F,g4,by omega,W⟩
     cases aq
    ·rename_i cs e n c b' n' c' r l;split at aq
     ·rename_i cs' e' w;simp only[bA_] at aq;have e1:=nB aq.1.1.1;have e2:=vo aq.1.1.2;have e3:=nB aq.1.2;have e4:=nB aq.2;subst e1;subst e2;subst e3;subst e4;have x:b'=b/\mk= .slice n c:=by cases mk<;>simp[Mk.of] at l<;>(obtain⟨q1,q2,q3⟩:=l;subst q1;subst q2;subst q3;exact⟨Z,Z⟩)
      obtain⟨rfl,rfl⟩:=x;exact⟨_,_,b',r,w,F,g4,by omega,W⟩
     cases aq
    cases aq
   cases aq
end
theorem mQ {t t₁:N V} {n:Nat} {dst:Option Nat} {v:V} (h:dI t n dst v=some t₁):
  (∀k,dst≠some k->t₁.get (posOf k)=t.get (posOf k))/\(∀k,dst=some k->k<n/\t₁.get (posOf k)=some v):=by
 cases dst with
 | none=>cases h;exact⟨fun _ _=>Z,fun k a=>by cases a⟩
 | some j=>
  obtain⟨b,rfl⟩:=ua h;refine⟨fun k a=>N.dv _ _ _ _ (fun e=>a (by rw[qW e])),fun k a=>?_⟩;cases a;exact⟨b,N.dA _ _ _⟩
theorem Jm {a:Act} {dst:Option Tmp} {x:Value}:(∀k,dst≠some k->(a.put dst x).tmps.getD k undef=a.tmps.getD k undef)/\(∀k,dst=some k->k<a.tmps.size->(a.put dst x).tmps.getD k undef=x)/\(a.put dst x).tmps.size=a.tmps.size:=by
 cases dst with
 | none=>exact⟨fun _ _=>Z,(fun k b=>by cases b),Z⟩
 | some j=>
  refine⟨fun k b=>?_,fun k b c=>?_,by simp[Act.put]⟩
  ·have:j≠k:=fun e=>b (by rw[e])
   simp[Act.put,Array.getD_eq_getD_getElem?,Array.getElem?_setIfInBounds,this]
  cases b;simp[Act.put,Array.getD_eq_getD_getElem?,Array.getElem?_setIfInBounds,c]
theorem df {α:Type} {x y:α} {l:List α} (h:x∈y::l):x=y∨x∈l:=mQ_.1 h
structure J_ (P:Program) (G:Cx) (ih:lf) (ops:Array Oper) (A:Array Nat) (n:Nat) (d:List DE) (fin:CR) (ρ₀:dh) (σ₀:D) (w₀:World) (t₀:N V)
  (l:List (Nat×List Nat)) (done:List Nat) (t:N V) (U:D) (listed:Array Bool) (S:dh) (w:World) (a:Act):Prop where
 run:ke P G ih ops n d l t U=fin
 ok:ES P ops A l done
 inv:Inv S U w
 L7:eY ρ₀ σ₀ w₀ S U w
 dr:DR S d a.defers
 gr:GR S G
 L9:a.tmps.size=n
 Ka:listed.size=ops.size
 Mu:∀i∈done,i<ops.size
 ord:Ord ops done
 sub:∀i,Li listed i->i∈done
 jW:∀i∈done,jX P ops i=true->Li listed i
 closed:∀i j,j<ops.size->Li listed i->ru A i j=true->Li listed j
 lR:∀i j,j<ops.size->i∈done->ru A i j=true->j∈done
 NL:∀i∈done,∀k,fe ops i=some k->k<n
 Cy:∀i k v,Li listed i->fe ops i=some k->t.get (posOf k)=some v->H S v (a.tmps.getD k undef)
 Cw:∀k v,(∀i,Li listed i->fe ops i≠some k)->t₀.get (posOf k)=some v->k<n/\H S v (a.tmps.getD k undef)
 same:∀k,(∀i∈done,fe ops i≠some k)->t.get (posOf k)=t₀.get (posOf k)
 Ci:∀i∈done,¬Li listed i->ri P G ops A t₀ t U S σ₀.next.num i
 apart:∀i j o o' k k' v v' b,i∈done->j∈done->¬Li listed i->¬Li listed j->ops[i]?=some o->ops[j]?=some o'->kindOf P o.op= .alloc->kindOf P o'.op= .alloc->
  fe ops i=some k->fe ops j=some k'->t.get (posOf k)=some v->t.get (posOf k')=some v'->dE v=some b->dE v'=some b->i=j
section
variable {P:Program} {G:Cx} {ih:lf} {ops:Array Oper} {A:Array Nat} {n:Nat} {d:List DE} {fin:CR} {ρ₀:dh} {σ₀:D} {w₀:World} {t₀:N V}
variable {l:List (Nat×List Nat)} {done:List Nat} {t:N V} {U:D} {listed:Array Bool} {S:dh} {w:World} {a:Act}
theorem vJ (c:Shape P ops A) {i:Nat} (e:i<ops.size) (hw:∀j,waits ops i j=true->j∈done) (f:∀i j,j<ops.size->i∈done->ru A i j=true->j∈done):∀j,j<ops.size->ru A i j=true->j∈done:=fun j b g=>by
 rcases c.ru i j e b g with h | ⟨q,k,m⟩
 ·exact hw j h
 exact f q j b (hw q k) m
theorem vK (c:Shape P ops A) {i:Nat} (e:i<ops.size) (hw:∀j,waits ops i j=true->Li listed j) (f:∀i j,j<ops.size->Li listed i->ru A i j=true->Li listed j):∀j,j<ops.size->ru A i j=true->Li listed j:=fun j b g=>by
 rcases c.ru i j e b g with h | ⟨q,k,m⟩
 ·exact hw j h
 exact f q j b (hw q k) m
theorem J_.wI (p:Shape P ops A) (f:J_ P G ih ops A n d fin ρ₀ σ₀ w₀ t₀ l done t U listed S w a) {i:Nat} {o:Oper} (g:ops[i]?=some o) (m:i∉done):
  ∀k∈slotsOf ops o,(∀j,fe ops j=some k->ru A i j=false)->t.get (posOf k)=t₀.get (posOf k):=fun k q e=>by
 refine f.same k fun j b c=>?_
 rcases p.look i o j k g c q with h | ⟨_,h | h⟩
 ·rw[e j c] at h;cases h
 ·subst h;exact m b
 exact m<|f.lR j i (aS_.1 g).1 b h
theorem J_.look (r:Shape P ops A) (c:J_ P G ih ops A n d fin ρ₀ σ₀ w₀ t₀ l done t U listed S w a) {i:Nat} {o:Oper} {ti:N V} (m:ops[i]?=some o) (p:¬Li listed i) (s:∀j,j<ops.size->ru A i j=true->Li listed j)
  (u:∀k∈slotsOf ops o,∀j,ru A i j=true->fe ops j=some k->ti.get (posOf k)=t.get (posOf k)) (x:∀k∈slotsOf ops o,(∀j,fe ops j=some k->ru A i j=false)->ti.get (posOf k)=t₀.get (posOf k)):
  ∀k∈slotsOf ops o,∀v,ti.get (posOf k)=some v->k<n/\H S v (a.tmps.getD k undef):=fun k g v f=>by
 by_cases hw:∃j,fe ops j=some k/\ru A i j=true
 ·obtain⟨j,b,q⟩:=hw;have hL:=s j (mA b) q;rw[u k g j q b] at f;exact⟨c.NL j (c.sub j hL) k b,c.Cy j k v hL b f⟩
 have e:∀j,fe ops j=some k->ru A i j=false:=fun j b=>by
  cases h:ru A i j with
  | false=>rfl
  | true=>exact absurd ⟨j,b,h⟩ hw
 rw[x k g e] at f;refine c.Cw k v (fun j hL b=>?_) f;rcases r.look i o j k m b g with h | ⟨_,h | h⟩
 ·rw[e j b] at h;cases h
 ·subst h;exact p hL
 exact p<|c.closed j i (aS_.1 m).1 hL h
theorem Ft {ti:N V} {o:Oper} (i:GR S G) (h:∀k∈slotsOf ops o,∀v,ti.get (posOf k)=some v->k<n/\H S v (a.tmps.getD k undef)):ER S (bE G ti) a.eval o.op:=fun x j v e=>by
 cases x with
 | tmp k=>exact(h k (z8 j) v e).2
 | const c=>exact kF (t:=.leaf) (n:=a.tmps.size) i ⟨Z,fun k v b=>by rw[N.mE] at b;cases b⟩ e
 | global g=>exact kF (t:=.leaf) (n:=a.tmps.size) i ⟨Z,fun k v b=>by rw[N.mE] at b;cases b⟩ e
 | func f=>exact kF (t:=.leaf) (n:=a.tmps.size) i ⟨Z,fun k v b=>by rw[N.mE] at b;cases b⟩ e
theorem uP {ti:N V} {o:Oper} {b:Bool} (c:a.tmps.size=n) (h:∀k∈slotsOf ops o,∀v,ti.get (posOf k)=some v->k<n/\H S v (a.tmps.getD k undef)) (hw:bM ops ti o=some b):Region.wanted o (yielded ops a.tmps)=b:=
 zn hw fun j want k e f v g=>by
  have:=h k (wG e f) v g;rw[c];exact this
theorem J_.ahead (hs:Shape P ops A) {i:Nat} {rc:List Nat} (f:J_ P G ih ops A n d fin ρ₀ σ₀ w₀ t₀ ((i,rc)::l) done t U listed S w a) (hl:jX P ops i=false) {o:Oper} (ho:ops[i]?=some o) {v:V} {t₁:N V} {L:D}
  (hp:dI t n o.dst v=some t₁) (aa:ke P G ih ops n d l t₁ L=fin) (hinv:Inv S L w) (aq:eY S U w S L w) (ab:∀b o,U.m.get b=some o->L.m.get b=some o)
  (F:∀b,dE v=some b->kindOf P o.op= .alloc->U.next.num<=b.num) (M:ri P G ops A t₀ t₁ L S σ₀.next.num i):J_ P G ih ops A n d fin ρ₀ σ₀ w₀ t₀ l (i::done) t₁ L listed S w a:=by
 obtain⟨W,ag⟩:=f.ok;obtain⟨f1,f2⟩:=mQ hp;have r:fe ops i=o.dst:=iM ho;have am:¬Li listed i:=fun h=>W.new (f.sub i h)
 have c:∀j∈done,∀k,fe ops j=some k->t₁.get (posOf k)=t.get (posOf k):=fun j p k g=>f1 k fun e=>by
  have:=hs.uniq i j k (by rw[r];exact e) g;subst this;exact W.new p
 have z:∀j∈done,¬Li listed j->ri P G ops A t₀ t₁ L S σ₀.next.num j:=fun j p s=>by
  refine((f.Ci j p s).LX fun k g=>?_).grow ab aq.next;rcases g with g | ⟨q,hq,g⟩
  ·exact c j p k g
  exact c q (f.lR j q (mA g) p hq) k g
 have K:∀j o' k' v' b,j∈done->¬Li listed j->ops[j]?=some o'->kindOf P o'.op= .alloc->fe ops j=some k'->t₁.get (posOf k')=some v'->dE v'=some b->b.num<U.next.num:=fun j o' k' v' b p s ac g hd C hb=>by
  obtain⟨o'',ti,e,_,_,bw,_,h4,X⟩:=f.Ci j p s;rw[ac] at e;cases e;rw[c j p k' hd] at C;rw[iM ac] at hd;cases bw with
  | false=>rw[h4 Z k' hd] at C;cases C;cases hb
  | true=>
   have:=X Z;unfold m6 at this;rw[g] at this;obtain⟨ob,mk,b',g1,g2,g3,g4,g5,g6⟩:=this;rw[g6 k' hd] at C;cases C;rw[zE] at hb;cases hb;exact g5
 refine⟨aa,ag,hinv,f.L7.trans aq,f.dr,f.gr,f.L9,f.Ka,fun j h=>?_,⟨W.dep,f.ord⟩,fun j h=>mC_ _ (f.sub j h),fun j h C=>?_,f.closed,fun j q hq h ha=>?_,fun j h k g=>?_,fun j k u hL g hu=>?_,f.Cw,fun k g=>?_,fun j h s=>?_,?_⟩
 ·rcases df h with rfl | h
  ·exact W.lt
  exact f.Mu j h
 ·rcases df h with rfl | h
  ·rw[hl] at C;cases C
  exact f.jW j h C
 ·rcases df h with rfl | h
  ·exact mC_ _<|vJ hs W.lt W.dep f.lR q hq ha
  exact mC_ _<|f.lR j q hq h ha
 ·rcases df h with rfl | h
  ·exact(f2 k (by rw[<-r];exact g)).1
  exact f.NL j h k g
 ·rw[c j (f.sub j hL) k g] at hu;exact f.Cy j k u hL g hu
 ·rw[f1 k (fun e=>g i (mS_ ..) (by rw[r];exact e))];exact f.same k fun j h=>g j (mC_ _ h)
 ·rcases df h with rfl | h
  ·exact M
  exact z j h s
 intro j q o' o'' k k' u u' b h1 h2 h3 h4 X h6 h7 h8 h9 E x y Q R;rcases df h1 with rfl | m1<;>rcases df h2 with rfl | m2
 ·rfl
 ·rw[ho] at X;cases X;have:=K q o'' k' u' b m2 h4 h6 h8 E y R;have e:=(f2 k (by rw[<-r];exact h9)).2;rw[e] at x;cases x;have:=F b Q h7;omega
 ·rw[ho] at h6;cases h6;have:=K j o' k u b m1 h3 X h7 h9 x Q;have e:=(f2 k' (by rw[<-r];exact E)).2;rw[e] at y;cases y;have:=F b R h8;omega
 rw[c j m1 k h9] at x;rw[c q m2 k' E] at y;exact f.apart j q o' o'' k k' u u' b m1 m2 h3 h4 X h6 h7 h8 h9 E x y Q R
theorem Inv.Da (g:Inv S U w) (ob:cG):zx S (U.alloc ob) w/\eY S U w S (U.alloc ob) w/\∀b o,U.m.get b=some o->(U.alloc ob).m.get b=some o:=by
 have f:S U.next=none:=(g.fresh _<|nR_ _).1;have c:∀b,b≠U.next->(U.alloc ob).m.get b=U.m.get b:=fun b k=>N.dv _ _ _ _ k
 have back:∀b o l,(U.alloc ob).m.get b=some o->S b=some l->U.m.get b=some o:=fun b o l h i=>by
  by_cases e:b=U.next
  ·subst e;rw[f] at i;cases i
  rw[c b e] at h;exact h
 refine⟨⟨fun b k=>?_,g.dE,fun b o l h i=>g.obj b o l (back b o l h i) i,fun b b' o o' l l' p q j u=>g.inj b b' o o' l l' (back b o l p j) (back b' o' l' q u) j u⟩,⟨fun _ _=>Z,?_,nR_ _,fun _ _ _=>Z,?_,Z,Z,Z⟩,fun b o h=>?_⟩
 ·have aa:U.next.num+1<=b.num:=by simpa [D.alloc,Pos.jt] using k
  have s:b≠U.next:=fun e=>by subst e;omega
  rw[c b s];exact g.fresh b B
 ·simp[D.alloc,Pos.jt]
 ·rintro r ⟨b,o,l,p,q,j,rfl⟩ _;exact⟨b,o,l,back b o l p j,q,j,Z⟩
 by_cases e:b=U.next
 ·subst e;rw[(g.fresh _<|nR_ _).2] at h;cases h
 rw[c b e];exact h
theorem Inv.ahead (c:Inv S U w) (ob:cG):Inv S (U.alloc ob) w/\eY S U w S (U.alloc ob) w/\∀b o,U.m.get b=some o->(U.alloc ob).m.get b=some o:=
 let ⟨f,e,g⟩:=c.Da ob;⟨⟨f,c.pI.of e⟩,e,g⟩
theorem D.GD (U:D) (ob:cG):(U.alloc ob).m.get U.next=some ob:=N.dA _ _ _
theorem J_.Oa (E:Shape P ops A) {i:Nat} {rc:List Nat} (s:J_ P G ih ops A n d fin ρ₀ σ₀ w₀ t₀ ((i,rc)::l) done t U listed S w a) (M:jX P ops i=false) (f:∀k,fin≠ .err k):
  ∃t₁ q,J_ P G ih ops A n d fin ρ₀ σ₀ w₀ t₀ l (i::done) t₁ q listed S w a:=by
 obtain⟨C,aa⟩:=s.ok;obtain⟨o,y⟩:∃o,ops[i]?=some o:=⟨ops[i]' C.lt,aG_ C.lt⟩
 have c:(match ops[i]? with
   | some o=>ju P G ih false ops n o t U (fun t' U'=>bif dn P G ops t' U' rc then ke P G ih ops n d l t' U' else .err 86)
   | none=>.err 87)=fin:=s.run
 rw[y] at c;dsimp only at c;have hhead:=s.wI E y C.new
 have u:∀t₁ q,(bif dn P G ops t₁ q rc then ke P G ih ops n d l t₁ q else .err 86)=fin->ke P G ih ops n d l t₁ q=fin:=fun t₁ q h=>by
  rw[bA] at h;split at h
  ·exact h
  exact absurd h.symm<|f 86
 have z:∀{v:V} {t₁:N V},dI t n o.dst v=some t₁->∀k∈slotsOf ops o,∀j,ru A i j=true->fe ops j=some k->t.get (posOf k)=t₁.get (posOf k):=fun r k g j W Q=>by
  refine((mQ r).1 k fun e=>?_).symm;have:=E.uniq i j k (by rw[iM y];exact e) Q;subst this;exact C.new<|vJ E C.lt C.dep s.lR i C.lt W
 unfold ju at c;cases hw:bM ops t o with
 | none=>rw[hw] at c;exact absurd c.symm<|f 85
 | some bw=>
  rw[hw] at c;cases bw with
  | false=>
   dsimp only at c;cases r:dI t n o.dst unit with
   | none=>rw[r] at c;exact absurd c.symm<|f 84
   | some t₁=>
    rw[r] at c;refine⟨t₁,U,s.ahead E M y r (u _ _ c) s.inv (eY.refl _ _ _) (fun _ _ h=>h) (fun b L=>by cases L) ?_⟩;exact⟨o,t,y,z r,hhead,false,hw,fun _ k g=>((mQ r).2 k g).2,fun h=>by cases h⟩
  | true=>
   dsimp only at c
   have main:∀(v:V) (q:D),lT P G ih (dW P G (bE G t) U o.op)= .ret v q->Inv S q w->eY S U w S q w->(∀b o,U.m.get b=some o->q.m.get b=some o)->
     (∀b,dE v=some b->kindOf P o.op= .alloc->U.next.num<=b.num)->(∀t₁,(∀k,o.dst=some k->t₁.get (posOf k)=some v)->m6 P G t₁ q S σ₀.next.num t o)->
     ∃t₁ q,J_ P G ih ops A n d fin ρ₀ σ₀ w₀ t₀ l (i::done) t₁ q listed S w a:=by
    intro v q he hinv aq F K R;rw[he] at c;dsimp only at c;cases r:dI t n o.dst v with
    | none=>rw[r] at c;exact absurd c.symm<|f 80
    | some t₁=>
     rw[r] at c;refine⟨t₁,q,s.ahead E M y r (u _ _ c) hinv aq F K ?_⟩;exact⟨o,t,y,z r,hhead,true,hw,fun h=>(by cases h),fun _=>R t₁ fun k g=>((mQ r).2 k g).2⟩
   cases g:kindOf P o.op with
   | jW=>simp[jX,DN,y,g] at M
   | pure=>
    cases x:di P (bE G t) o.op with
    | none=>
     have:lT P G ih (dW P G (bE G t) U o.op)= .err (Nat.add 1000<|sV o.op):=by unfold dW;rw[g];dsimp only;rw[x];rfl
     rw[this] at c;exact absurd c.symm<|f _
    | some v=>
     have:lT P G ih (dW P G (bE G t) U o.op)= .ret v U:=by unfold dW;rw[g];dsimp only;rw[x];rfl
     refine main v U this s.inv (eY.refl _ _ _) (fun _ _ h=>h) (fun b _ h=>by rw[g] at h;cases h) fun t₁ ht₁=>?_
     unfold m6;rw[g];exact⟨v,x,ht₁⟩
   | read=>
    cases x:gW P (bE G t) U o.op with
    | none=>
     have:lT P G ih (dW P G (bE G t) U o.op)= .err (Nat.add 2000<|sV o.op):=by unfold dW;rw[g];dsimp only;rw[x];rfl
     rw[this] at c;exact absurd c.symm<|f _
    | some v=>
     have:lT P G ih (dW P G (bE G t) U o.op)= .ret v U:=by unfold dW;rw[g];dsimp only;rw[x];rfl
     refine main v U this s.inv (eY.refl _ _ _) (fun _ _ h=>h) (fun b _ h=>by rw[g] at h;cases h) fun t₁ ht₁=>?_
     unfold m6;rw[g];exact⟨v,x,ht₁⟩
   | alloc=>
    cases x:gi P (bE G t) o.op with
    | none=>
     have:lT P G ih (dW P G (bE G t) U o.op)= .err (Nat.add 3000<|sV o.op):=by unfold dW;rw[g];dsimp only;rw[x];rfl
     rw[this] at c;exact absurd c.symm<|f _
    | some p=>
     obtain⟨ob,mk⟩:=p;have:lT P G ih (dW P G (bE G t) U o.op)= .ret (mk.of U.next) (U.alloc ob):=by unfold dW;rw[g];dsimp only;rw[x];rfl
     obtain⟨g1,X,Z⟩:=s.inv.ahead ob;refine main _ _ this g1 X Z (fun b L _=>by rw[zE] at L;cases L;exact nR_ _) fun t₁ ht₁=>?_
     unfold m6;rw[g];exact⟨ob,mk,U.next,x,D.GD U ob,(s.inv.fresh _<|nR_ _).1,s.L7.next,by simp[D.alloc,Pos.jt],ht₁⟩
theorem J_.advance (f:Shape P ops A) (b:∀k,fin≠ .err k):∀(l:List (Nat×List Nat)) (done:List Nat) (t:N V) (U:D),J_ P G ih ops A n d fin ρ₀ σ₀ w₀ t₀ l done t U listed S w a->
  ∃l' done' t' U',J_ P G ih ops A n d fin ρ₀ σ₀ w₀ t₀ l' done' t' U' listed S w a/\(l'= []∨∃i rc r,l'=(i,rc)::r/\jX P ops i=true)
 | [],done,t,U,c=>⟨[],done,t,U,c,.inl Z⟩
 | (i,rc)::l,done,t,U,c=>by
  cases g:jX P ops i with
  | true=>exact⟨_,done,t,U,c,.inr ⟨i,rc,l,Z,g⟩⟩
  | false=>
   obtain⟨t₁,h,e⟩:=c.Oa f g b;exact J_.advance f b l _ t₁ h e
end
section
variable {P:Program} {G:Cx} {ih:lf} {ops:Array Oper} {A:Array Nat} {n:Nat} {d:List DE} {fin:CR} {ρ₀:dh} {σ₀:D} {w₀:World} {t₀:N V}
variable {l:List (Nat×List Nat)} {done:List Nat} {t:N V} {U:D} {listed:Array Bool} {S:dh} {w:World} {a:Act}
theorem J_.behind (K:Shape P ops A) (f:J_ P G ih ops A n d fin ρ₀ σ₀ w₀ t₀ l done t U listed S w a) {i:Nat} {o:Oper} {x:Value} {p:dh} {w₁:World} (L:ops[i]?=some o) (m:i∈done) (hn:¬Li listed i)
  (M:∀j,j<ops.size->ru A i j=true->Li listed j) (Q:∀k v,o.dst=some k->t.get (posOf k)=some v->H p v x) (hinv:Inv p U w₁) (aq:eY ρ₀ σ₀ w₀ p U w₁) (hle:S.le p)
  (s:∀j∈done,¬Li listed j->j≠i->ri P G ops A t₀ t U p σ₀.next.num j):J_ P G ih ops A n d fin ρ₀ σ₀ w₀ t₀ l done t U (listed.setIfInBounds i true) p w₁ (a.put o.dst x):=by
 have y:i<listed.size:=by rw[f.Ka];exact f.Mu i m
 have g:fe ops i=o.dst:=iM L;obtain⟨z,R,W⟩:=Jm (a:=a) (dst:=o.dst) (x:=x);have c:∀{j},Li (listed.setIfInBounds i true) j↔j=i∨Li listed j:=zy y
 refine⟨f.run,f.ok,hinv,aq,by rw[put_defers];exact f.dr.mono hle,f.gr.mono hle,by rw[W];exact f.L9,by simpa using f.Ka,f.Mu,f.ord,fun j h=>?_,fun j h X=>c.2 (.inr<|f.jW j h X),fun j q C h E=>?_,f.lR,f.NL,
  fun j k v h r hu=>?_,fun k v h hu=>?_,f.same,fun j h F=>?_,?_⟩
 ·rcases c.1 h with rfl | h
  ·exact m
  exact f.sub j h
 ·rcases c.1 h with rfl | h
  ·exact c.2 (.inr<|M q C E)
  exact c.2 (.inr<|f.closed j q C h E)
 ·by_cases e:j=i
  ·subst e;rw[g] at r;rw[R k r (by rw[f.L9];exact f.NL j m k (by rw[g];exact r))];exact Q k v r hu
  have hL:=(c.1 h).resolve_left e;rw[z k (fun e'=>e (K.uniq j i k r (by rw[g];exact e')))];exact H.mono hle _ _<|f.Cy j k v hL r hu
 ·rw[z k (fun e'=>h i (c.2 (.inl Z)) (by rw[g];exact e'))];obtain⟨q1,q2⟩:=f.Cw k v (fun j hL=>h j (c.2 (.inr hL))) hu;exact⟨q1,H.mono hle _ _ q2⟩
 ·exact s j h (fun hL=>F (c.2 (.inr hL))) (fun e=>F (c.2 (.inl e)))
 intro j q o' o'' k k' u u' b h1 h2 h3 h4;exact f.apart j q o' o'' k k' u u' b h1 h2 (fun hL=>h3 (c.2 (.inr hL))) (fun hL=>h4 (c.2 (.inr hL)))
theorem te {t₁:N V} {c:D}:∀{rc:List Nat} {j:Nat},dn P G ops t₁ c rc=true->j∈rc->jh P G ops t₁ c j=true
 | [],j,_,b=>by cases b
 | i::rc,j,h,b=>by
  have h':(bif jh P G ops t₁ c i then dn P G ops t₁ c rc else false)=true:=h;rw[bA] at h';split at h'
  ·rename_i e;rcases df b with rfl | b
   ·exact e
   exact te h' b
  cases h'
theorem J_.OA (W:Shape P ops A) {i:Nat} {rc:List Nat} (g:J_ P G ih ops A n d fin ρ₀ σ₀ w₀ t₀ ((i,rc)::l) done t U listed S w a) (hl:jX P ops i=true) {o:Oper} (ho:ops[i]?=some o)
  (hr:∀j,j<ops.size->ru A i j=true->Li listed j) {v:V} {x:Value} {t₁:N V} {E:D} {X:dh} {w₁:World} (hp:dI t n o.dst v=some t₁) (s:dn P G ops t₁ E rc=true) (F:ke P G ih ops n d l t₁ E=fin)
  (hv:H X v x) (hinv:Inv X E w₁) (aq:eY S U w X E w₁):J_ P G ih ops A n d fin ρ₀ σ₀ w₀ t₀ l (i::done) t₁ E (listed.setIfInBounds i true) X w₁ (a.put o.dst x):=by
 obtain⟨y,aa⟩:=g.ok;obtain⟨f1,f2⟩:=mQ hp;have hle:=aq.le g.inv;have ab:i<listed.size:=by rw[g.Ka];exact y.lt
 have p:fe ops i=o.dst:=iM ho;obtain⟨p1,p2,p3⟩:=Jm (a:=a) (dst:=o.dst) (x:=x);have c:∀{j},Li (listed.setIfInBounds i true) j↔j=i∨Li listed j:=zy ab;have ap:¬Li listed i:=fun h=>y.new (g.sub i h)
 have f:∀j∈done,∀k,fe ops j=some k->t₁.get (posOf k)=t.get (posOf k):=fun j r k m=>f1 k fun e=>by
  have:=W.uniq i j k (by rw[p];exact e) m;subst this;exact y.new r
 refine⟨F,aa,hinv,g.L7.trans aq,by rw[put_defers];exact g.dr.mono hle,g.gr.mono hle,by rw[p3];exact g.L9,by simpa using g.Ka,fun j h=>?_,⟨y.dep,g.ord⟩,fun j h=>?_,fun j h hv=>?_,fun j q z h C=>?_,fun j q z h C=>?_,fun j h k m=>?_,
  fun j k u h m hu=>?_,fun k u h hu=>?_,fun k m=>?_,fun j h K=>?_,?_⟩
 ·rcases df h with rfl | h
  ·exact y.lt
  exact g.Mu j h
 ·rcases c.1 h with rfl | h
  ·exact mS_ ..
  exact mC_ _<|g.sub j h
 ·rcases df h with rfl | h
  ·exact c.2 (.inl Z)
  exact c.2 (.inr<|g.jW j h hv)
 ·rcases c.1 h with rfl | h
  ·exact c.2 (.inr<|hr q z C)
  exact c.2 (.inr<|g.closed j q z h C)
 ·rcases df h with rfl | h
  ·exact mC_ _<|vJ W y.lt y.dep g.lR q z C
  exact mC_ _<|g.lR j q z h C
 ·rcases df h with rfl | h
  ·exact(f2 k (by rw[<-p];exact m)).1
  exact g.NL j h k m
 ·by_cases e:j=i
  ·subst e;rw[p] at m;obtain⟨q1,q2⟩:=f2 k m;rw[p2 k m (by rw[g.L9];exact q1)];rw[q2] at hu;cases hu;exact hv
  have hL:=(c.1 h).resolve_left e;rw[p1 k (fun e'=>e (W.uniq j i k m (by rw[p];exact e')))];rw[f j (g.sub j hL) k m] at hu;exact H.mono hle _ _<|g.Cy j k u hL m hu
 ·rw[p1 k (fun e'=>h i (c.2 (.inl Z)) (by rw[p];exact e'))];obtain⟨q1,q2⟩:=g.Cw k u (fun j hL=>h j (c.2 (.inr hL))) hu;exact⟨q1,H.mono hle _ _ q2⟩
 ·rw[f1 k (fun e=>m i (mS_ ..) (by rw[p];exact e))];exact g.same k fun j h=>m j (mC_ _ h)
 ·have ac:j≠i:=fun e=>K (c.2 (.inl e))
  have L:¬Li listed j:=fun hL=>K (c.2 (.inr hL))
  have r:j∈done:=(df h).resolve_left ac;refine(g.Ci j r L).again W (fun k m=>?_) (fun k m=>?_) (fun ag=>?_) (fun b hb=>aq.ext b hb) aq.next
  ·rcases m with m | ⟨q,z,m⟩
   ·exact f j r k m
   exact f q (g.lR j q (mA m) r z) k m
  ·rw[f1 k (fun e=>m i (by rw[p];exact e))];exact g.same k fun j _=>m j
  rcases y.again hl j r ag with C | hm
  ·exact absurd (hr j (g.Mu j r) C) L
  exact te s hm
 intro j q o' o'' k k' u u' b h1 h2 h3 h4 h5 h6 h7 h8 h9 M Q R am ao;have m1:j∈done:=(df h1).resolve_left fun e=>h3 (c.2 (.inl e))
 have m2:q∈done:=(df h2).resolve_left fun e=>h4 (c.2 (.inl e))
 rw[f j m1 k h9] at Q;rw[f q m2 k' M] at R;exact g.apart j q o' o'' k k' u u' b m1 m2 (fun hL=>h3 (c.2 (.inr hL))) (fun hL=>h4 (c.2 (.inr hL))) h5 h6 h7 h8 h9 M Q R am ao
theorem Cn {i:Nat} (c:listed.size=ops.size) (h:i∈Region.ready .any ops listed):i<ops.size/\¬Li listed i/\∀j,waits ops i j=true->Li listed j:=by
 obtain⟨g,o,f,k⟩:=mem_ready.1 h;have hlt:=(aS_.1 f).1;refine⟨hlt,(I9 (by rw[c];exact hlt)).1 g,fun j hw=>?_⟩;obtain⟨o',b,e,he,m,rfl⟩:=ra.1 hw;rw[f] at b;cases b;exact k e he m
theorem Cm {i:Nat} (c:listed.size=ops.size) (b:i<ops.size) (f:¬Li listed i) (hw:∀j,waits ops i j=true->Li listed j):i∈Region.ready .any ops listed:=
 mem_ready.2 ⟨(I9 (by rw[c];exact b)).2 f,ops[i]' b,aG_ b,fun e he g=>hw _ (ra.2 ⟨_,aG_ b,e,he,g,Z⟩)⟩
theorem y8:∀{done:List Nat},Ord ops done->(∃i∈done,¬Li listed i)->∃i∈done,¬Li listed i/\∀j,waits ops i j=true->Li listed j
 | [],_,⟨i,k,_⟩=>by cases k
 | i::r,e,⟨q,c,f⟩=>by
  by_cases g:∃j∈r,¬Li listed j
  ·obtain⟨j,m,o,p⟩:=y8 e.2 g;exact⟨j,mC_ _ m,o,p⟩
  have b:∀j∈r,Li listed j:=fun j s=>Classical.byContradiction fun h=>g ⟨j,s,h⟩
  rcases df c with rfl | c
  ·exact⟨q,mS_ ..,f,fun j hw=>b j (e.1 j hw)⟩
  exact absurd (b q c) f
theorem J_.all (hs:Shape P ops A) (c:J_ P G ih ops A n d fin ρ₀ σ₀ w₀ t₀ l done t U listed S w a) (g:Region.ready .any ops listed= []):∀i,i<ops.size->Li listed i:=by
 have b:∀i∈done,Li listed i:=fun i e=>Classical.byContradiction fun h=>by
  obtain⟨q,k,m,o⟩:=y8 c.ord ⟨i,e,h⟩;have:=Cm c.Ka (c.Mu q k) m o;rw[g] at this;cases this
 intro i e;cases l with
 | nil=>
  have:=c.ok;exact b i<|this i e
 | cons p l=>
  obtain⟨q,rc⟩:=p;obtain⟨f,_⟩:=c.ok;have:=Cm (listed:=listed) c.Ka f.lt (fun h=>f.new (c.sub q h)) (fun j hw=>b j (f.dep j hw));rw[g] at this;cases this
theorem J_.finish (hs:Shape P ops A) (b:J_ P G ih ops A n d fin ρ₀ σ₀ w₀ t₀ l done t U listed S w a) (c:∀i,i<ops.size->Li listed i):fin= .ok .normal t d U/\TR S t n a.tmps:=by
 cases l with
 | nil=>
  refine⟨b.run.symm,b.L9,fun k v f=>?_⟩
  by_cases hw:∃i,fe ops i=some k
  ·obtain⟨i,e⟩:=hw;have hL:=c i (mA e);exact⟨b.NL i (b.sub i hL) k e,b.Cy i k v hL e f⟩
  rw[b.same k fun i _ e=>hw ⟨i,e⟩] at f;exact b.Cw k v (fun i _ e=>hw ⟨i,e⟩) f
 | cons p l=>
  obtain⟨q,rc⟩:=p;obtain⟨g,_⟩:=b.ok;exact absurd (b.sub q<|c q g.lt) g.new
def left (N_:Nat) (listed:Array Bool):Nat:=(List.range N_).countP fun i=> !listed.getD i false
theorem yH {α:Type} {p q:α->Bool}:∀{l:List α} {x:α},(∀y∈l,q y=true->p y=true)->x∈l->p x=true->q x=false->l.countP q<l.countP p
 | [],x,_,b,_,_=>by cases b
 | y::l,x,h,b,e,f=>by
  have hle:l.countP q<=l.countP p:=List.countP_mono_left fun z c=>h z (mC_ _ c)
  rcases df b with rfl | b
  ·simp[List.countP_cons,e,f];omega
  have:=yH (fun z c=>h z (mC_ _ c)) b e f;rw[List.countP_cons,List.countP_cons];cases g:q y with
  | false=>simp;omega
  | true=>rw[h y (mS_ ..) g];simp;omega
theorem IQ {N_ i:Nat} (c:i<N_) (b:listed.size=N_) (e:¬Li listed i):left N_ (listed.setIfInBounds i true)<left N_ listed:=by
 refine yH (x:=i) (fun y _ f=>?_) (List.mem_range.2 c) ?_ ?_
 ·by_cases h:Li listed y
  ·have:Li (listed.setIfInBounds i true) y:=(zy (by rw[b];exact c)).2 (.inr h);unfold Li at this;rw[this] at f;cases f
  unfold Li at h;simpa using h
 ·unfold Li at e;simpa using e
 have:Li (listed.setIfInBounds i true) i:=(zy (by rw[b];exact c)).2 (.inl Z);unfold Li at this;rw[this];rfl
theorem GP {N_:Nat} (h:left N_ listed=0):∀i,i<N_->Li listed i:=fun i b=>by
 have:=List.countP_eq_zero.1 h i (List.mem_range.2 b);unfold Li;simpa using this
theorem Inv.lay (f:Inv S U w) {b:Pos} {l:Loc} {ob:cG} {x:Obj} (E:U.m.get b=some ob) (F:S b=none) (aa:b.num<U.next.num) (K:l.dE=w.heap.size) (L:iF S l ob x):Inv (S.with b l) U (w.alloc x)/\S.le (S.with b l):=by
 have hle:S.le (S.with b l):=fun b' l' c=>by
  rw[dh.dT]; · exact c
  intro e;subst e;rw[F] at c;cases c
 have hold:∀b' l',b'≠b->(S.with b l) b'=some l'->S b'=some l':=fun b' l' i h=>by rwa[dh.dT S l i] at h
 have j:Old (S.with b l) U (w.alloc x):=by
  refine⟨by have:=f.pI.size;simp;omega,fun r p=>by rw[heap_alloc_old w x<|Nat.lt_of_lt_of_le p f.pI.size];exact f.pI.same r p,fun r p ⟨b',o',l',v,z,g,q⟩=>?_⟩
  by_cases e:b'=b
  ·subst e;rw[dh.cZ] at g;cases g;have:=f.pI.size;omega
  exact f.pI.no r p ⟨b',o',l',v,z,hold b' l' e g,q⟩
 refine⟨⟨⟨fun b' c=>?_,fun b' l' c=>?_,fun b' o' l' c k=>?_,fun b₁ b₂ o₁ o₂ l₁ l₂ v z g q M C=>?_⟩,j⟩,hle⟩
 ·have i:b'≠b:=fun e=>by subst e;omega
  rw[dh.dT S l i];exact f.fresh b' c
 ·simp only[World.size_alloc]
  by_cases e:b'=b
  ·subst e;rw[dh.cZ] at c;cases c;omega
  have:=f.dE b' l' (hold b' l' e c);omega
 ·by_cases e:b'=b
  ·subst e;rw[dh.cZ] at k;cases k;rw[E] at c;cases c;exact⟨x,by rw[K];exact heap_alloc_new w x,L.mono hle⟩
  have h':=hold b' l' e k;obtain⟨y,Q,p⟩:=f.obj b' o' l' c h';exact⟨y,by rw[heap_alloc_old w x<|f.dE b' l' h'];exact Q,p.mono hle⟩
 by_cases s:b₁=b<;>by_cases u:b₂=b
 ·exact absurd (s.trans u.symm) C
 ·subst s;rw[dh.cZ] at g;cases g;have:=f.dE b₂ l₂ (hold b₂ l₂ u q);omega
 ·subst u;rw[dh.cZ] at q;cases q;have:=f.dE b₁ l₁ (hold b₁ l₁ s g);omega
 exact f.inj b₁ b₂ o₁ o₂ l₁ l₂ v z (hold b₁ l₁ s g) (hold b₂ l₂ u q) M C
theorem eY.lay (aq:eY ρ₀ σ₀ w₀ S U w) {b:Pos} {l:Loc} {x:Obj} (aa:σ₀.next.num<=b.num) (hl:l.dE=w.heap.size):eY ρ₀ σ₀ w₀ (S.with b l) U (w.alloc x):=by
 refine⟨fun b' f=>?_,aq.next,by have:=aq.size;simp;omega,fun r g h=>?_,?_,aq.tape,aq.os,aq.out⟩
 ·rw[dh.dT S l (fun e=>by subst e;omega)];exact aq.ext b' f
 ·rw[heap_alloc_old w x (by have:=aq.size;omega)];exact aq.frame r g h
 rintro r ⟨b',o',l',i,j,c,rfl⟩ g
 by_cases e:b'=b
 ·subst e;rw[dh.cZ] at c;cases c;have:=aq.size;omega
 rw[dh.dT S l e] at c;exact aq.wr _ ⟨b',o',l',i,j,c,Z⟩ g
theorem J_.take (C:Shape P ops A) (g:J_ P G ih ops A n d fin ρ₀ σ₀ w₀ t₀ l done t U listed S w a) {i:Nat} (s:i∈done) (E:¬Li listed i) (hw:∀j,waits ops i j=true->Li listed j) (rl:Option Nat) (m:Nat) {Q:Exit->Act->World->Prop} {K:Act->World->Prop}
  (W:∀S1 w₁ a₁,J_ P G ih ops A n d fin ρ₀ σ₀ w₀ t₀ l done t U (listed.setIfInBounds i true) S1 w₁ a₁->K a₁ w₁):wpOpIn (oO rl) m P ops Q i K a w:=by
 have hr:=vK C (g.Mu i s) hw g.closed;obtain⟨o,ti,z,h1,h2,bw,h3,h4,h5⟩:=g.Ci i s E;have hlook:=g.look C z E hr h1 h2;unfold wpOpIn;rw[z];dsimp only;rw[uP g.L9 hlook h3];cases bw with
 | false=>
  simp only[Bool.false_eq_true,if_false];exact⟨fun f _=>qJ rl f,W S w _<|g.behind C z s E hr (fun k v p hv=>by rw[h4 Z k p] at hv;cases hv;exact vn) g.inv g.L7 (fun _ _ h=>h) fun j q r _=>g.Ci j q r⟩
 | true=>
  simp only[if_true];have X:ER S (bE G ti) a.eval o.op:=Ft g.gr hlook;have hv:=h5 Z;unfold m6 at hv;have F:kindOf P o.op≠ .jW->∀c,o.op≠ .defer c:=fun p c e=>p (by rw[e];rfl)
  unfold Oper.wpIn;refine⟨fun f _=>qJ rl f,?_⟩;cases p:kindOf P o.op with
  | jW=>rw[p] at hv;exact hv.elim
  | pure=>
   rw[p] at hv;obtain⟨v,g1,L⟩:=hv;obtain⟨x,M,y⟩:=xk (P:=P) (w:=w) X g1;rw[Oper.semAt_eq _ _ _<|F (by rw[p];simp),M,Oper.uponIn_value];exact W S w _<|g.behind C z s E hr (fun k u p hu=>by rw[L k p] at hu;cases hu;exact y) g.inv g.L7 (fun _ _ h=>h) fun j q r _=>g.Ci j q r
  | read=>
   rw[p] at hv;obtain⟨v,g1,L⟩:=hv;obtain⟨x,M,y⟩:=xn (P:=P) g.inv X g1;rw[Oper.semAt_eq _ _ _<|F (by rw[p];simp),M,Oper.uponIn_value];exact W S w _<|g.behind C z s E hr (fun k u p hu=>by rw[L k p] at hu;cases hu;exact y) g.inv g.L7 (fun _ _ h=>h) fun j q r _=>g.Ci j q r
  | alloc=>
   rw[p] at hv;obtain⟨ob,mk,b,g1,L,g3,g4,g5,g6⟩:=hv;obtain⟨x,ob',c,M,ag,aa,y⟩:=ur (P:=P) (w:=w) X g1;rw[Oper.semAt_eq _ _ _<|F (by rw[p];simp),M,Oper.uponIn_value];obtain⟨inv,hle⟩:=g.inv.lay (l:=⟨w.heap.size,0,c⟩) L g3 g5 Z aa;obtain⟨kd,R⟩:=C.dst i o z (by simp[gu,tT,z,p]);refine W _ _ _<|g.behind C z s E hr (fun k u p hu=>by rw[g6 k p] at hu;cases hu;exact y _ b<|dh.cZ _ _ _) inv (g.L7.lay g4 Z) hle fun j q r ab=>?_;refine(g.Ci j q r).Qw C fun b' ac hb'n=>?_
   obtain⟨o',k',v',q1,q2,q3,q4,q5⟩:=ac;rw[dh.dT]
   ·exact hb'n
   intro e;subst e;exact ab<|g.apart j i o' o k' kd v' (mk.of b') b' q s r E q1 z q2 p q3 (by rw[iM z];exact R) q4 (g6 kd R) q5<|zE mk b'
theorem Ib (s:Shape P ops A) (hS:Sound P G ih) (rl:Option Nat) (m:Nat) {Q:Exit->Act->World->Prop} {e:Ex} {t':N V} {d':List DE} {U':D} (g:fin= .ok e t' d' U')
  (hQ:∀(S':dh) (w':World) (a':Act),Inv S' U' w'->eY ρ₀ σ₀ w₀ S' U' w'->TR S' t' n a'.tmps->DR S' d' a'.defers->Qx Q S' e a' w'):
  ∀(fuel:Nat) (l:List (Nat×List Nat)) (done:List Nat) (t:N V) (U:D) (listed:Array Bool) (S:dh) (w:World) (a:Act),J_ P G ih ops A n d fin ρ₀ σ₀ w₀ t₀ l done t U listed S w a->left ops.size listed<=fuel->
   wpAnyIn (oO rl) m P .any ops Q fuel listed a w:=by
 have u:∀{l done t U listed S w a},J_ P G ih ops A n d fin ρ₀ σ₀ w₀ t₀ l done t U listed S w a->Region.ready .any ops listed= []->Q .normal a w:=fun {l done t U listed S w a} c hr=>by
  obtain⟨L,R⟩:=c.finish s (c.all s hr);rw[g] at L;cases L;exact hQ S w a c.inv c.L7 R c.dr _ Z
 intro fuel;induction fuel with
 | zero=>
  intro l done t U listed S w a c hf;have hall:=GP (Nat.le_zero.1 hf)
  have hr:Region.ready .any ops listed= []:=by
   apply List.eq_nil_iff_forall_not_mem.2;intro i W;obtain⟨L,R,_⟩:=Cn c.Ka W;exact R<|hall i L
  exact⟨hr,u c hr⟩
 | succ fuel ihf=>
  intro l done t U listed S w a c hf;refine⟨fun hr=>u c hr,fun i W=>?_⟩;obtain⟨l,done,t,U,c,y⟩:=J_.advance s (fun k=>by rw[g];simp) l done t U c;obtain⟨j,X,hw⟩:=Cn c.Ka W;have z:left ops.size (listed.setIfInBounds i true)<=fuel:=by have:=IQ j c.Ka X;omega
  by_cases C:i∈done
  ·exact c.take s C X hw rl m fun S1 w₁ a₁ aa=>ihf _ _ _ _ _ _ _ _ aa z
  
  rcases y with rfl | ⟨q,rc,r,rfl,hl⟩
  ·have:=c.ok;exact absurd (this i j) C
  obtain⟨hh,_⟩:=c.ok
  have ab:i=q:=Classical.byContradiction fun ac=>by
   obtain⟨x,L,R⟩:=hh.alone hl i j C ac;exact R<|c.sub x<|hw x L
  subst ab;have hr:=vK s j hw c.closed;obtain⟨o,M⟩:∃o,ops[i]?=some o:=⟨ops[i]' j,aG_ j⟩;have hlook:=c.look s M X hr (ti:=t) (fun _ _ _ _ _=>Z) (c.wI s M hh.new)
  have b:(match ops[i]? with
   | some o=>ju P G ih false ops n o t U (fun t' U'=>bif dn P G ops t' U' rc then ke P G ih ops n d r t' U' else .err 86)
   | none=>.err 87)=fin:=c.run
  rw[M,g] at b;dsimp only at b
  have p:∀t₁ E,(bif dn P G ops t₁ E rc then ke P G ih ops n d r t₁ E else .err 86)= .ok e t' d' U'->dn P G ops t₁ E rc=true/\ke P G ih ops n d r t₁ E=fin:=fun t₁ E h=>by
   rw[bA] at h;split at h
   ·rename_i aq;exact⟨aq,by rw[g];exact h⟩
   cases h
  unfold ju at b;unfold wpOpIn;rw[M];dsimp only;cases F:bM ops t o with
  | none=>rw[F] at b;cases b
  | some bw=>
   rw[F] at b;rw[uP c.L9 hlook F];cases bw with
   | false=>
    dsimp only at b;simp only[Bool.false_eq_true,if_false];cases K:dI t n o.dst unit with
    | none=>rw[K] at b;cases b
    | some t₁=>
     rw[K] at b;obtain⟨c1,c2⟩:=p _ _ b;exact⟨fun f _=>qJ rl f,ihf _ _ _ _ _ _ _ _ (c.OA s hl M hr K c1 c2 vn c.inv<|eY.refl _ _ _) z⟩
   | true=>
    dsimp only at b;simp only[if_true];cases he:lT P G ih (dW P G (bE G t) U o.op) with
    | err k=>rw[he] at b;cases b
    | mO v E=>rw[he] at b;cases b
    | ret v E=>
     rw[he] at b;dsimp only at b;cases K:dI t n o.dst v with
     | none=>rw[K] at b;cases b
     | some t₁=>
      rw[K] at b;obtain⟨c1,c2⟩:=p _ _ b;exact Ce hS c.inv c.gr (Ft c.gr hlook) he rl m fun S1 w₁ x inv st hv=>ihf _ _ _ _ _ _ _ _ (c.OA s hl M hr K c1 c2 hv inv st) z
end
section
variable {P:Program} {G:Cx}
theorem jJ {b:Frame} {a:Act} {k:List Item} {cs:List Frame} {w:World} {c:Code}:step P (lone (b.atR a (.code (.scope c)::k)) cs w)= .next (lone (b.atR a (.code c:: .inScope c::k)) cs w):=
 step_lone_go (by simp[stepG,stepG.exec,Frame.atR])
theorem yl {b:Frame} {a:Act} {k:List Item} {cs:List Frame} {w:World} {c:Code}:step P (lone (b.atR a (.inScope c::k)) cs w)= .next (lone (b.atR a k) cs w):=
 step_lone_go (by simp[stepG,stepG.exec,Frame.atR])
theorem EK {F:Fence} {n:Nat} {c:Code} {Q:Exit->Act->World->Prop} {a:Act} {w:World} (h:c.wpIn F n P (Exit.noGoto Q) a w):(Code.scope c).wpIn F n P Q a w:=by
 intro b k cs i j m;have f:(lone (b.atR a (.code (.scope c)::k)) cs w).fenced P F:=fenced_calm j m Z;obtain⟨e,a₁,w₁,g,d⟩:=h b (.inScope c::k) cs i j m;cases e with
 | normal=>exact⟨.normal,a₁,w₁,g,.head f jJ<|StepsIn.trans d (.one (fenced_calm j m Z) yl)⟩
 | exit id'=>
  have q:exitTo id' (.inScope c::k)=exitTo id' k:=by simp[exitTo]
  exact⟨.exit id',a₁,w₁,g,fun k' o=>.head f jJ (d.1 k' (by rw[q];exact o)),
   fun p o=>let ⟨k₁,r,s⟩:=d.2 p (by rw[q];exact o);⟨k₁,r,.head f jJ s⟩⟩
 | goto l=>exact g.elim
 | ret=>exact⟨_,a₁,w₁,g,.of_steps (.one f jJ) d⟩
 | panic ch=>exact⟨_,a₁,w₁,g,.of_steps (.one f jJ) d⟩
 | outgrown=>exact⟨_,a₁,w₁,g,.of_steps (.one f jJ) d⟩
theorem kJ {N_ i:Nat}:¬Li (Array.replicate N_ false) i:=by
 unfold Li;rw[Array.getD_eq_getD_getElem?,Array.getElem?_replicate];split<;>simp
theorem Dv {ih:lf} (p:Sound P G ih) {ops:Array Oper} {n:Nat} {d:List DE} {t:N V} {U:D} {e:Ex} {t':N V} {d':List DE} {U':D} (h:uF P G ih ops n d t U= .ok e t' d' U')
  {S:dh} {w:World} {a:Act} (c:Inv S U w) (q:GR S G) (l:TR S t n a.tmps) (r:DR S d a.defers) (rl:Option Nat) (m:Nat) {Q:Exit->Act->World->Prop}
  (s:∀(S':dh) (w':World) (a':Act),Inv S' U' w'->eY S U w S' U' w'->TR S' t' n a'.tmps->DR S' d' a'.defers->Qx Q S' e a' w'):
  wpAnyIn (oO rl) m P .any ops Q ops.size (Array.replicate ops.size false) a {w with drawn:=w.drawn+1}:=by
 unfold uF at h;rw[bA] at h;split at h
 ·rename_i x;obtain⟨y,g⟩:=KJ x;refine Ib (A:=zB P ops) (n:=n) (d:=d) (t₀:=t) (ρ₀:=S) (σ₀:=U) (w₀:=w) y p rl m Z s ops.size (jB P ops) [] t U _ S _ a ?_ ?_
  ·refine⟨h,g,c.drew,eY.drew S U w,r,q,l.1,by simp,fun i c=>(by cases c),trivial,fun i f=>absurd f kJ,fun i c=>(by cases c),fun i j _ f=>absurd f kJ,fun i j _ c=>(by cases c),fun i c=>(by cases c),
    fun i k v f=>absurd f kJ,fun k v _ z=>l.2 k v z,fun _ _=>Z,fun i c=>(by cases c),?_⟩
   intro i j o o' k k' u u' b c;cases c
  exact Nat.le_trans List.countP_le_length (by simp)
 cases h
theorem xK {K:Act->World->Prop} {Q:Exit->Act->World->Prop} {S:dh} {e:Ex} {a:Act} {w:World} (he:e≠ .normal) (h:Qx Q S e a w):Qx (Exit.then K Q) S e a w:=by
 intro E b;have h':=h E b;cases e with
 | normal=>exact absurd Z he
 | mO v=>obtain⟨x,rfl,_⟩:=b;exact h'
 | exit i=>have b:E= .exit i:=b;subst b;exact h'
 | goto i=>have b:E= .goto i:=b;subst b;exact h'
 | ret=>have b:E= .ret:=b;subst b;exact h'
theorem Hi (hm:P.follows .mixedOrders=true) (hC:AQ P G) (k:Nat):Sound P G (ew P G k):=by
 induction k using Nat.strongRecOn with
 | _ k ihk=>
  cases k with
  | zero=>exact⟨hC,fun c t n d ro U e t' d' U' h=>by cases h⟩
  | succ j=>
   have hS:=ihk j (Nat.lt_succ_self j);refine⟨hC,fun c t n d ro U e t' d' U' h S w a rl m Q u C A F K o=>?_⟩;have h:FQ P G (ew P G j) c t n d ro U= .ok e t' d' U':=h;cases c with
   | skip=>cases h;exact wpIn_skip<|o S w a u (eY.refl _ _ _) A F _ Z
   | label l=>cases h;exact wpIn_label<|o S w a u (eY.refl _ _ _) A F _ Z
   | exit id=>cases h;exact wpIn_exit<|o S w a u (eY.refl _ _ _) A F _ Z
   | ret=>cases h;exact wpIn_ret<|o S w a u (eY.refl _ _ _) A F _ Z
   | region id ops draw=>
    cases draw with
    | false=>
     have h':(bif lE ops.toList then .err 96 else ya d (sW P G (ew P G j) ops n d ops.toList t U))= .ok e t' d' U':=h;refine wpIn_region ?_;rw[bA] at h';split at h'
     ·cases h'
     have:=tX hS rl (m:=m) (Q:=Q) ops.toList 0 Z t U S w a h' u C A F o;rw[List.range_eq_range'];simpa using this
    | true=>
     have h':uF P G (ew P G j) ops n d t U= .ok e t' d' U':=h;exact wpIn_region_any hm<|Dv hS h' u C A F rl m o
   | seq x y=>
    have h':yj (ew P G j x t n d ro U) (fun t d U=>ew P G j y t n d ro U)= .ok e t' d' U':=h;refine wpIn_seq ?_;cases p:ew P G j x t n d ro U with
    | err q=>rw[p] at h';cases h'
    | ok e₁ t₁ d₁ r=>
     rw[p] at h'
     by_cases he:e₁= .normal
     ·subst he;refine hS.run x t n d ro U _ t₁ d₁ r p S w a rl m _ u C A F K fun g w₁ a₁ i₁ s₁ ht₁ b E f=>?_
      have f:E= .normal:=f;subst f;have hle:=s₁.le u;exact hS.run y t₁ n d₁ ro r e t' d' U' h' g w₁ a₁ rl m Q i₁ (C.mono hle) ht₁ b (K.mono hle) fun S' w' a' i' s'=>o S' w' a' i' (s₁.trans s')
     have h'':CR.ok e₁ t₁ d₁ r= .ok e t' d' U':=by cases e₁<;>first | exact absurd rfl he | exact h'
     cases h'';exact hS.run x t n d ro U _ _ _ _ p S w a rl m _ u C A F K fun g w₁ a₁ i₁ s₁ ht₁ b=>xK he (o g w₁ a₁ i₁ s₁ ht₁ b)
   | cond x y z=>
    have h':yG (bE G t x) (ew P G j y t n d ro U) (ew P G j z t n d ro U)= .ok e t' d' U':=h;unfold yG at h';split at h'
    ·rename_i R;have:=kF (a:=a) C A R;simp only[H] at this;exact wpIn_cond_true this<|hS.run y t n d ro U e t' d' U' h' S w a rl m Q u C A F K o
    ·rename_i R;have:=kF (a:=a) C A R;simp only[H] at this;exact wpIn_cond_false this<|hS.run z t n d ro U e t' d' U' h' S w a rl m Q u C A F K o
    cases h'
   | block id x=>
    have h':tG id (ew P G j x t n d ro U)= .ok e t' d' U':=h;refine wpIn_block ?_;cases p:ew P G j x t n d ro U with
    | err q=>rw[p] at h';cases h'
    | ok e₁ t₁ d₁ r=>
     rw[p] at h';refine hS.run x t n d ro U e₁ t₁ d₁ r p S w a rl m _ u C A F K fun g w₁ a₁ i₁ s₁ ht₁ b E f=>?_
     cases e₁ with
     | exit q=>
      have f:E= .exit q:=f;subst f;unfold tG at h';dsimp only at h';rw[bA] at h';split at h'
      ·rename_i W;cases h';have:=nB W;subst this;simp only[Exit.inBlock,if_true];exact o g w₁ a₁ i₁ s₁ ht₁ b _ Z
      rename_i W;cases h';have X:¬q=id:=fun e=>W (by rw[e];exact Nat.beq_refl id)
      simp only[Exit.inBlock,if_neg X];exact o g w₁ a₁ i₁ s₁ ht₁ b _ Z
     | normal=>have f:E= .normal:=f;subst f;cases h';exact o g w₁ a₁ i₁ s₁ ht₁ b _ Z
     | goto q=>have f:E= .goto q:=f;subst f;cases h';exact o g w₁ a₁ i₁ s₁ ht₁ b _ Z
     | ret=>have f:E= .ret:=f;subst f;cases h';exact o g w₁ a₁ i₁ s₁ ht₁ b _ Z
     | mO v=>cases h';have h2:=o g w₁ a₁ i₁ s₁ ht₁ b E f;obtain⟨y,rfl,_⟩:=f;exact h2
   | scope x=>
    have h':Em (ew P G j x t n d ro U)= .ok e t' d' U':=h;refine EK ?_;cases p:ew P G j x t n d ro U with
    | err q=>rw[p] at h';cases h'
    | ok e₁ t₁ d₁ r=>
     rw[p] at h';refine hS.run x t n d ro U e₁ t₁ d₁ r p S w a rl m _ u C A F K fun g w₁ a₁ i₁ s₁ ht₁ b E f=>?_
     cases e₁ with
     | goto q=>cases h'
     | normal=>have f:E= .normal:=f;subst f;cases h';exact o g w₁ a₁ i₁ s₁ ht₁ b _ Z
     | exit q=>have f:E= .exit q:=f;subst f;cases h';exact o g w₁ a₁ i₁ s₁ ht₁ b _ Z
     | ret=>have f:E= .ret:=f;subst f;cases h';exact o g w₁ a₁ i₁ s₁ ht₁ b _ Z
     | mO v=>cases h';have h2:=o g w₁ a₁ i₁ s₁ ht₁ b E f;obtain⟨y,rfl,_⟩:=f;exact h2
   | loop x=>
    refine wpIn_loop_ghost (fun i a₁ w₁=>i<=j+1/\∃t₁ d₁ r g,ew P G i (.loop x) t₁ n d₁ ro r= .ok e t' d' U'/\Inv g r w₁/\eY S U w g r w₁/\TR g t₁ n a₁.tmps/\DR g d₁ a₁.defers) (j+1)
     ⟨nR_ _,t,d,U,S,h,u,eY.refl _ _ _,A,F⟩ fun i a₁ w₁ hI=>?_
    obtain⟨aa,t₁,d₁,r,g,L,i₁,s₁,ht₁,b⟩:=hI;have hle:=s₁.le u;cases i with
    | zero=>cases L
    | succ i=>
     have hSi:=ihk i B;have h':yj (ew P G i x t₁ n d₁ ro r) (fun t d U=>ew P G i (.loop x) t n d ro U)= .ok e t' d' U':=L;cases p:ew P G i x t₁ n d₁ ro r with
     | err q=>rw[p] at h';cases h'
     | ok e₂ t₂ d₂ U2=>
      rw[p] at h'
      by_cases he:e₂= .normal
      ·subst he;refine hSi.run x t₁ n d₁ ro r _ t₂ d₂ U2 p g w₁ a₁ rl m _ i₁ (C.mono hle) ht₁ b (K.mono hle) fun S2 w₂ a₂ i₂ s₂ ht₂ M E f=>?_
       have f:E= .normal:=f;subst f;exact⟨i,Nat.lt_succ_self i,by omega,t₂,d₂,U2,S2,h',i₂,s₁.trans s₂,ht₂,M⟩
      have h'':CR.ok e₂ t₂ d₂ U2= .ok e t' d' U':=by cases e₂<;>first | exact absurd rfl he | exact h'
      cases h'';exact hSi.run x t₁ n d₁ ro r _ _ _ _ p g w₁ a₁ rl m _ i₁ (C.mono hle) ht₁ b (K.mono hle) fun S2 w₂ a₂ i₂ s₂ ht₂ M=>xK he (o S2 w₂ a₂ i₂ (s₁.trans s₂) ht₂ M)
   | _=>cases h
theorem pU (hm:P.follows .mixedOrders=true) (a:AQ P G) {fuel f:Nat} {args:List V} {U U':D} {v:V} (h:wo P G fuel f args U= .ret v U') {S:dh} {w:World} {xs:Array Value} (b:Inv S U w) (c:GR S G) (d:dp S args xs.toList)
  {R:Ending->World->Prop} (e:∀(S':dh) (w':World) (x:Value),Inv S' U' w'->eY S U w S' U' w'->H S' v x->R (.returned x) w'):Calls P f xs w R:=
 callsIn_wide.1 (vP (Hi hm a fuel) h b c d none 0 e)
def U0:D:=⟨0,.leaf⟩
end
end Go.Ev
namespace Go.Ev
variable [Env]
open Go.ChangeShapes Go.WideShapes Go.ChangeAt Go.RowKit
theorem kr.kept {w w':World} (h:kr w w') (may:MemPlace->Prop):w.keptBut w' may:=by
 refine⟨h.os,h.out,fun i a=>?_⟩;rw[h.same i a];cases w.heap[i]? with
 | none=>rfl
 | some o=>cases o<;>first | exact⟨rfl,rfl,rfl,fun _ _=>Z⟩ | exact .inr ⟨rfl,rfl⟩ | rfl
theorem kr.frozen {w w':World} (h:kr w w') (a:Addr) (b:a.block<w.heap.size):w'.frozen? a=w.frozen? a:=by
 unfold World.frozen?;rw[h.same a.block b]
theorem Ei {H_:Type} {enc:TypeId×Value->H_} {P:Program} {f:Func} {s:ChangeSpec} {apart fresh handsOn again:Bool} {W W':World} {args:Array Value} {v:Value} {ds gs:List (DataW H_)} {before pa pv:List MemPlace}
  (i:DataW.Whole enc P f.params.toList s.vars apart W args.toList ds gs before)
  (d:∀(b:Nat) (sp:Nat->Bool) (m:Bool),DataW.TrodAll enc P W' b sp m f.resultTypes.toList (v.resultList f.resultTypes.size) (s.fn H_ (ds++gs)).results [])
  (a:∀sp:Nat->Bool,(∀p∈before,sp p.block=true)->DataW.TrodAll enc P W' 0 sp true f.params.toList args.toList (s.fn H_ (ds++gs)).args pa)
  (c:∀sp:Nat->Bool,(∀p∈before,sp p.block=true)->DataW.TrodVars enc P W' sp s.vars (s.fn H_ (ds++gs)).vars pv)
  (e:before=pa++pv) (l:kr W W')
  (k:∀(j:Nat) (t:TypeId) (r:Value),f.resultTypes[j]?=some t->(v.resultList f.resultTypes.size)[j]?=some r->Value.okWide P W' .any 0 t r):
  s.post enc P f apart fresh handsOn again W args v W':=by
 have hold:∀p∈before,(fun b=>decide (b<W.heap.size)) p.block=true:=fun p g=>by simpa using i.lt p g
 refine⟨ds,gs,before,[],pa,pv,i,d _ _ _,a _ hold,c _ hold,l.kept _,fun _=>?_⟩;have hlt:=i.lt;obtain⟨_,_,_,_,_,n,o⟩:=i;refine⟨k,_,_,([]++pa)++pv,⟨[]++pa,pv,trodAll_append (a _ (fun _ _=>Z))<|d _ _ _,c _ (fun _ _=>Z),Z,?_,?_⟩,?_⟩
 ·intro b off g;have h:MemPlace.cell b off∈before:=by rw[e];simpa using g
  rw[l.frozen _<|hlt _ h];exact n b off h
 ·intro q;have:=o q;rw[e] at this;simpa using this
 intro p g _;rw[e];simpa using g
end Go.Ev
namespace Go.Ev
variable [Env]
structure IK where
 k:IntKind
 n:Int
structure PO where
 b:Pos
 off:Nat
structure SL where
 b:Pos
 off:Nat
 len:Nat
def NK:V->Option IK
 | .int k n=>some ⟨k,n⟩
 | _=>none
def O9:V->Option PO
 | .ptr b off=>some ⟨b,off⟩
 | _=>none
def Qg:V->Option SL
 | .slice b off len _=>some ⟨b,off,len⟩
 | _=>none
def Qf:V->Option Nat
 | .int _ (.ofNat i)=>some i
 | _=>none
def Qe:V->Option Bool
 | .bool b=>some b
 | _=>none
def Qh:V->Option (List V)
 | .tuple l=>some l
 | _=>none
def rowOf:cG->Option (List V)
 | .row cells _ _=>some cells
 | .own cells _=>some cells
 | _=>none
theorem Be {v:V} {i:IK} (h:NK v=some i):v= .int i.k i.n:=by
 unfold NK at h;split at h
 ·cases h;rfl
 cases h
def pG (U:D) (e:Nat) (v:Option V):HR:=Option.rec (motive:=fun _=>HR) (.err e) (fun v=>.val v U) v
theorem nr (U:D) (e:Nat) (v:Option V):pG U e v=match v with | some v=>.val v U | none=>.err e:=by cases v<;>rfl
structure PR where
 run:N V->Option V
def oa (G:Cx) (x:Operand):PR:=
 match x with
 | .tmp k=>bif Nat.ble k 255 then⟨fun t=>jV t.s k⟩ else⟨fun t=>t.get k⟩
 | .const v=>⟨fun _=>qb v⟩
 | .global g=>⟨fun _=>bif Nat.ble (Nat.succ g) G.gl then some (.ptr (posOf g) 0) else none⟩
 | .func f=>⟨fun _=>some (.func f [] [])⟩
theorem jA (G:Cx) (x:Operand) (t:N V):(oa G x).run t=bE G t x:=by
 cases x with
 | tmp k=>
  show(bif Nat.ble k 255 then(⟨fun t=>jV t.s k⟩:PR) else⟨fun t=>t.get k⟩).run t=t.get k;cases h:Nat.ble k 255 with
  | true=>exact(N.pY t ((oG k 255).1 h)).symm
  | false=>rfl
 | _=>rfl
structure PQ where
 run:V->V->Option V
def IH (P:Program) (q:Bool) (o:BinOp) (ty:TypeId) (f:IntKind->Int->Int->V) (a b:V):Option V:=
 Option.rec (motive:=fun _=>Option V) (vh P q o ty a b) (fun i=>Option.rec (motive:=fun _=>Option V) (vh P q o ty a b) (fun j=>bif r9 i.k j.k then some (f i.k i.n j.n) else none) (NK b)) (NK a)
theorem MX {P:Program} {q:Bool} {o:BinOp} {ty:TypeId} {f:IntKind->Int->Int->V} (h:∀k x k' y,vh P q o ty (.int k x) (.int k' y)=bif r9 k k' then some (f k x y) else none) (a b:V):IH P q o ty f a b=vh P q o ty a b:=by
 unfold IH;cases c:NK a with
 | none=>rfl
 | some i=>
  cases d:NK b with
  | none=>rfl
  | some j=>
   rw[Be c,Be d,h]
def Qp (_:IntKind) (x y:Int):V:=.bool (bU x y)
def Qm (_:IntKind) (x y:Int):V:=.bool (bU y x)
def Qo (_:IntKind) (x y:Int):V:=.bool (bif bU y x then false else true)
def Ql (_:IntKind) (x y:Int):V:=.bool (bif bU x y then false else true)
def Qk (_:IntKind) (x y:Int):V:=.bool (I x y)
def Qs (_:IntKind) (x y:Int):V:=.bool (bif I x y then false else true)
def O7 (k:IntKind) (x y:Int):V:=.int k (wr k<|Int.add x y)
def PL (k:IntKind) (x y:Int):V:=.int k (wr k<|Int.sub x y)
def Pm (k:IntKind) (x y:Int):V:=.int k (wr k<|Int.mul x y)
def NY (P:Program) (q:Bool) (o:BinOp) (ty:TypeId):PQ:=
 match o with
 | .lss=>⟨IH P q .lss ty Qp⟩
 | .gtr=>⟨IH P q .gtr ty Qm⟩
 | .leq=>⟨IH P q .leq ty Qo⟩
 | .geq=>⟨IH P q .geq ty Ql⟩
 | .eql=>⟨IH P q .eql ty Qk⟩
 | .neq=>⟨IH P q .neq ty Qs⟩
 | .add=>⟨IH P q .add ty O7⟩
 | .sub=>⟨IH P q .sub ty PL⟩
 | .mul=>⟨IH P q .mul ty Pm⟩
 | o=>⟨fun a b=>vh P q o ty a b⟩
theorem Mt (P:Program) (q:Bool) (o:BinOp) (ty:TypeId) (a b:V):(NY P q o ty).run a b=vh P q o ty a b:=by
 cases o<;>first | rfl | exact MX (fun _ _ _ _=>Z) a b
def NX (c:PQ) (x y:Option V):Option V:=
 Option.rec (motive:=fun _=>Option V) none (fun a=>Option.rec (motive:=fun _=>Option V) none (fun b=>c.run a b) y) x
def FE (c a b:Option V):Option V:=
 Option.rec (motive:=fun _=>Option V) none (fun c=>Option.rec (motive:=fun _=>Option V) none (fun c=>bif c then a else b) (Qe c)) c
def N3 (i:Nat) (x:Option V):Option V:=
 Option.rec (motive:=fun _=>Option V) none (fun x=>Option.rec (motive:=fun _=>Option V) none (fun l=>nth l i) (Qh x)) x
def Pl (ag:Option (Option Nat)) (cells:List V) (off:Nat):Option V:=
 Option.rec (motive:=fun _=>Option V) none (fun o=>Option.rec (motive:=fun _=>Option V) (nth cells off) (fun n=>bif Nat.ble (Nat.add off n) (cX cells) then some (.agg<|takeN (dS cells off) n) else none) o) ag
def B4 (ag:Option (Option Nat)) (U:D) (x:Option V):Option V:=
 Option.rec (motive:=fun _=>Option V) none (fun v=>Option.rec (motive:=fun _=>Option V) none (fun p=>Option.rec (motive:=fun _=>Option V) none
  (fun o=>Option.rec (motive:=fun _=>Option V) none (fun cells=>Pl ag cells p.off) (rowOf o)) (U.m.get p.b))<|O9 v) x
def nV (P:Program) (s:TypeId) (i:Nat):Option Nat:=
 match structOf P s with
 | some fs=>match fs[i]? with
  | some f=>match uI P f.type with
   | some j=>bif Nat.beq j.size 0 then none else some f.offset
   | none=>none
  | none=>none
 | none=>none
def OD (k:Option Nat) (x:Option V):Option V:=
 Option.rec (motive:=fun _=>Option V) none (fun k=>Option.rec (motive:=fun _=>Option V) none (fun v=>Option.rec (motive:=fun _=>Option V) none (fun p=>some (.ptr p.b<|Nat.add p.off k)) (O9 v)) x) k
structure IA where
 n:Option Nat
 sz:Nat
def wJ (P:Program) (t:TypeId):Option IA:=
 match pk P t with
 | some (.slice e)=>match uI P e with | some j=>some ⟨none,j.size⟩ | none=>none
 | some (.array n e)=>match uI P e with | some j=>some ⟨some n,j.size⟩ | none=>none
 | _=>none
def Pk (q:IA) (v:V) (i:Nat):Option V:=
 Option.rec (motive:=fun _=>Option V)
  (Option.rec (motive:=fun _=>Option V) none (fun s=>bif Nat.ble (Nat.succ i) s.len then some (.ptr s.b<|Nat.add s.off<|Nat.mul i q.sz) else none)<|Qg v)
  (fun n=>Option.rec (motive:=fun _=>Option V) none (fun p=>bif Nat.ble (Nat.succ i) n then some (.ptr p.b<|Nat.add p.off<|Nat.mul i q.sz) else none) (O9 v)) q.n
def OE (q:Option IA) (x i:Option V):Option V:=
 Option.rec (motive:=fun _=>Option V) none (fun q=>Option.rec (motive:=fun _=>Option V) none (fun v=>Option.rec (motive:=fun _=>Option V) none
  (fun w=>Option.rec (motive:=fun _=>Option V) none (fun i=>Pk q v i) (Qf w)) i) x) q
structure O0 where
 run:N V->D->HR
def Bp (P:Program) (G:Cx) (U:D) (f:Option V) (args:Option (List V)):HR:=
 Option.rec (motive:=fun _=>HR) (.err 12) (fun g=>Option.rec (motive:=fun _=>HR) (.err 12) (fun args=>yA P G.ov U g args) args) f
def Gw (G:Cx) (l:List Operand) (t:N V):Option (List V):=cW (fun x=>(oa G x).run t) l
def Lh (P:Program) (G:Cx) (op:Op):O0:=
 match op with
 | .move x=>⟨fun t U=>pG U 1001 ((oa G x).run t)⟩
 | .assign x=>⟨fun t U=>pG U 1002 ((oa G x).run t)⟩
 | .pick c a b=>⟨fun t U=>pG U 1003 (FE ((oa G c).run t) ((oa G a).run t) ((oa G b).run t))⟩
 | .binOp o ty x y _=>⟨fun t U=>pG U 1014 (NX (NY P (yT x || yT y) o ty) ((oa G x).run t) ((oa G y).run t))⟩
 | .extract x i=>⟨fun t U=>pG U 1036 (N3 i ((oa G x).run t))⟩
 | .load ty x=>⟨fun t U=>pG U 2009 (B4 (dU P ty) U ((oa G x).run t))⟩
 | .fieldAddr s x i=>⟨fun t U=>pG U 1024 (OD (nV P s i) ((oa G x).run t))⟩
 | .indexAddr ty x i=>⟨fun t U=>pG U 1026 (OE (wJ P ty) ((oa G x).run t) ((oa G i).run t))⟩
 | .call c=>match c.callee with
  | .value f=>⟨fun t U=>Bp P G U ((oa G f).run t) (Gw G c.args.toList t)⟩
  | _=>⟨fun t U=>dW P G (bE G t) U (.call c)⟩
 | op=>⟨fun t U=>dW P G (bE G t) U op⟩
theorem Je (P:Program) (G:Cx) (op:Op) (t:N V) (U:D):(Lh P G op).run t U=dW P G (bE G t) U op:=by
 cases op with
 | move x=>show pG U 1001 ((oa G x).run t)=_;rw[jA,nr];rfl
 | assign x=>show pG U 1002 ((oa G x).run t)=_;rw[jA,nr];rfl
 | pick c a b=>
  show pG U 1003 (FE ((oa G c).run t) ((oa G a).run t) ((oa G b).run t))=_;rw[jA,jA,jA,nr]
  have:FE (bE G t c) (bE G t a) (bE G t b)=di P (bE G t) (.pick c a b):=by
   simp only[di,FE];cases bE G t c with
   | none=>rfl
   | some v=>cases v<;>first | rfl | (rename_i b;cases b<;>rfl)
  rw[this];rfl
 | binOp o ty x y r=>
  show pG U 1014 (NX (NY P (yT x || yT y) o ty) ((oa G x).run t) ((oa G y).run t))=_;rw[jA,jA,nr]
  have:NX (NY P (yT x || yT y) o ty) (bE G t x) (bE G t y)=di P (bE G t) (.binOp o ty x y r):=by
   simp only[di,NX];cases bE G t x with
   | none=>rfl
   | some v=>
    cases bE G t y with
    | none=>rfl
    | some u=>exact Mt P _ o ty v u
  rw[this];rfl
 | extract x i=>
  show pG U 1036 (N3 i ((oa G x).run t))=_;rw[jA,nr]
  have:N3 i (bE G t x)=di P (bE G t) (.extract x i):=by
   simp only[di,N3];cases bE G t x with
   | none=>rfl
   | some v=>cases v<;>rfl
  rw[this];rfl
 | load ty x=>
  show pG U 2009 (B4 (dU P ty) U ((oa G x).run t))=_;rw[jA,nr]
  have:B4 (dU P ty) U (bE G t x)=gW P (bE G t) U (.load ty x):=by
   simp only[gW,B4];cases bE G t x with
   | none=>rfl
   | some v=>
    cases v<;>first | rfl | skip
    rename_i b off;show Option.rec (motive:=fun _=>Option V) none _ (U.m.get b)=_;cases w:U.m.get b with
    | none=>dsimp only;rw[w]
    | some o=>
     dsimp only;rw[w];cases o<;>first | rfl | skip
     all_goals
      show Pl (dU P ty) _ off=_;unfold Pl;cases dU P ty with
      | none=>rfl
      | some q=>cases q<;>rfl
  rw[this];rfl
 | fieldAddr s x i=>
  show pG U 1024 (OD (nV P s i) ((oa G x).run t))=_;rw[jA,nr]
  have:OD (nV P s i) (bE G t x)=di P (bE G t) (.fieldAddr s x i):=by
   simp only[di,nV,p4];cases structOf P s with
   | none=>rfl
   | some fs=>
    dsimp only;cases hx:bE G t x with
    | none=>
     cases fs[i]? with
     | none=>rfl
     | some f=>dsimp only;cases P.info? f.type with
      | none=>rfl
      | some j=>dsimp only;cases Nat.beq j.size 0<;>rfl
    | some v=>
     cases p:fs[i]? with
     | none=>cases v<;>first | rfl | (simp only[p];rfl)
     | some f=>
      dsimp only;cases h:P.info? f.type with
      | none=>cases v<;>first | rfl | (simp only[p,h];rfl)
      | some j=>
       dsimp only;cases z:Nat.beq j.size 0<;>(cases v<;>first | rfl | (simp only[p,h,z];rfl))
  rw[this];rfl
 | indexAddr ty x i=>
  show pG U 1026 (OE (wJ P ty) ((oa G x).run t) ((oa G i).run t))=_;rw[jA,jA,nr]
  have:OE (wJ P ty) (bE G t x) (bE G t i)=di P (bE G t) (.indexAddr ty x i):=by
   simp only[di,wJ,p4,ow];cases hu:P.underlying ty with
   | none=>rfl
   | some d=>
    cases d<;>first | rfl | skip
    all_goals
     dsimp only;rename_i e;cases h:P.info? e with
     | none=>
      cases bE G t x with
      | none=>rfl
      | some v=>cases v<;>first | rfl | (cases bE G t i with
       | none=>rfl
       | some u=>cases u<;>first | rfl | (rename_i k n;cases n<;>first | rfl | (simp only[h];rfl)))
     | some j=>
      cases bE G t x with
      | none=>rfl
      | some v=>cases v<;>first | (cases bE G t i with
       | none=>rfl
       | some u=>cases u<;>first | rfl | (rename_i k n;cases n<;>first | rfl | (simp only[h];rfl)))
  rw[this];rfl
 | call c=>
  cases l:c.callee with
  | value f=>
   have A:(Lh P G (.call c)).run t U=Bp P G U ((oa G f).run t) (Gw G c.args.toList t):=by
    show(match c.callee with
     | .value f=>(⟨fun t U=>Bp P G U ((oa G f).run t) (Gw G c.args.toList t)⟩:O0)
     | _=>⟨fun t U=>dW P G (bE G t) U (.call c)⟩).run t U=_
    rw[l]
   have C:dW P G (bE G t) U (.call c)=gz P G.ov (bE G t) U (.call c):=by
    unfold dW;have:kindOf P (.call c)= .jW:=by simp only[kindOf,l]
    rw[this]
   have E:Gw G c.args.toList t=tN (bE G t) c.args.toList:=by
    unfold Gw tN;congr 1;funext x;exact jA G x t
   rw[A,C,jA,E];simp only[gz,l,Bp];cases bE G t f with
   | none=>rfl
   | some g=>cases tN (bE G t) c.args.toList<;>rfl
  | _=>
   show(match c.callee with
     | .value f=>(⟨fun t U=>Bp P G U ((oa G f).run t) (Gw G c.args.toList t)⟩:O0)
     | _=>⟨fun t U=>dW P G (bE G t) U (.call c)⟩).run t U=_
   rw[l]
 | _=>rfl
structure NU where
 run:N V->V->Nat->(N V->CR)->CR
structure Qc where
 run:V->N V->N V
def HC (j:Nat):Qc:=
 bif Nat.ble j 255 then⟨fun v t=>N.rec (motive:=fun _=>N V) (fun s m l=>⟨(xM<|Nat.div j 16).run s ((xM<|Nat.mod j 16).run ((kh<|Nat.div j 16).run s)<|some v),m,l⟩) t⟩
 else⟨fun v t=>t.put (some v) j⟩
theorem Nh (j:Nat) (v:V) (t:N V):(HC j).run v t=t.put (some v) j:=by
 unfold HC;cases h:Nat.ble j 255 with
 | true=>
  cases t with
  | mk s m l=>exact(N.s7 (some v) s m l ((oG j 255).1 h)).symm
 | false=>rfl
def Ni (j:Nat) (v:V) (t:N V):N V:=(HC j).run v t
theorem Ln (j:Nat) (v:V) (t:N V):Ni j v t=t.put (some v) j:=Nh j v t
def Ac (n:Nat) (dst:Option Nat):NU:=
 match dst with
 | none=>⟨fun t _ _ k=>k t⟩
 | some j=>bif Nat.ble (Nat.succ j) n then⟨fun t v _ k=>k (Ni j v t)⟩ else⟨fun _ _ e _=>.err e⟩
theorem Ad (n:Nat) (dst:Option Nat) (t:N V) (v:V) (e:Nat) (k:N V->CR):(Ac n dst).run t v e k=match dI t n dst v with | some t'=>k t' | none=>.err e:=by
 cases dst with
 | none=>rfl
 | some j=>
  show(bif Nat.ble (Nat.succ j) n then(⟨fun t v _ k=>k (Ni j v t)⟩:NU) else⟨fun _ _ e _=>.err e⟩).run t v e k=_;show _=match(bif Nat.ble (Nat.succ j) n then some (t.put (some v) j) else none) with | some t'=>k t' | none=>.err e
  rw[<-Ln];cases Nat.ble (Nat.succ j) n<;>rfl
structure Qa where
 run:lf->List V->D->KR
def PH (P:Program) (G:Cx) (ih:lf) (fn:Func) (r:CR):KR:=
 match r with
 | .ok .normal t d U=>x8 P G ih fn .ret t d U
 | .ok .ret t d U=>x8 P G ih fn .ret t d U
 | .ok (.mO v) t d U=>x8 P G ih fn (.mO v) t d U
 | .err k=>.err k
 | _=>.err 72
def MQ (P:Program) (G:Cx) (fn:Func) (c:Code) (ih:lf) (args:List V) (U:D):KR:=
 Option.rec (motive:=fun _=>KR) (.err 73) (fun t=>PH P G ih fn (ih c t fn.ntmps [] none U)) (ry fn.ntmps args)
def Pj (P:Program) (G:Cx) (f:Nat):Qa:=
 match nth P.funcs.toList f with
 | some fn=>match fn.body with
  | some c=>⟨MQ P G fn c⟩
  | none=>⟨fun _ _ _=>.err 73⟩
 | none=>⟨fun _ _ _=>.err 74⟩
theorem MP (P:Program) (G:Cx) (f:Nat) (ih:lf) (args:List V) (U:D):(Pj P G f).run ih args U=lj P G ih f args U:=by
 unfold Pj lj;rw[eF,aT_];cases P.funcs[f]? with
 | none=>rfl
 | some fn=>
  dsimp only;cases hb:fn.body with
  | none=>rfl
  | some c=>
   dsimp only;show MQ P G fn c ih args U=_;unfold MQ;cases ry fn.ntmps args with
   | none=>rfl
   | some t=>rfl
def Bm (P:Program) (G:Cx) (ih:lf) (f:Nat) (args:List V) (U:D):KR:=
 Option.rec (motive:=fun _=>KR) (Option.rec (motive:=fun _=>KR) (Option.rec (motive:=fun _=>KR) (bif G.fk f then sj (pX P G ih f args U) else(Pj P G f).run ih args U) (fun c=>.err c)<|G.stop f args U) (fun v=>bif eH args && (mD v && nD G.gl U G.laid) then .ret v U else .err 79)<|G.HD f args) (fun v=>bif mD v then .ret v U else .err 78) (G.HB f args U)
theorem Bn (P:Program) (G:Cx) (ih:lf) (f:Nat) (args:List V) (U:D):Bm P G ih f args U=mw P G ih f args U:=by
 unfold Bm mw;rw[MP];cases G.HB f args U with
 | some v=>rfl
 | none=>
 dsimp only;cases G.HD f args with
 | some v=>rfl
 | none=>
  dsimp only;cases G.stop f args U<;>rfl
structure Kf where
 run:lf->N V->D->(N V->D->CR)->CR
def K8 (k:N V->D->CR) (U:D) (t:N V):CR:=k t U
def PV (pn:Bool) (c:NU) (t:N V) (k:N V->D->CR) (r:KR):CR:=
 KR.rec (motive:=fun _=>CR) (fun v U=>c.run t v 80 (K8 k U)) (fun v U=>Lj pn v t U) (fun e=>.err e) r
def KV (P:Program) (G:Cx) (ih:lf) (pn:Bool) (c:NU) (t:N V) (k:N V->D->CR) (r:HR):CR:=
 HR.rec (motive:=fun _=>CR) (fun v U=>c.run t v 80 (K8 k U)) (fun U=>c.run t unit 80 (K8 k U)) (fun f args U=>PV pn c t k (Bm P G ih f args U)) (fun _ _ _=>.err 66) (fun v U=>Lj pn v t U) (fun e=>.err e) r
def JX (ops:Array Oper) (o:Oper) (c:NU) (t:N V) (U:D) (k:N V->D->CR) (go:CR) (w:Option Bool):CR:=
 Option.rec (motive:=fun _=>CR) (.err 85) (fun b=>bif b then go else c.run t unit 84 (K8 k U)) w
def PK (P:Program) (G:Cx) (j:Nat) (op:Op):Option Kf:=
 match op with
 | .move x=>some ⟨fun _ t U k=>Option.rec (motive:=fun _=>CR) (.err 1001) (fun v=>k ((HC j).run v t) U) ((oa G x).run t)⟩
 | .assign x=>some ⟨fun _ t U k=>Option.rec (motive:=fun _=>CR) (.err 1002) (fun v=>k ((HC j).run v t) U) ((oa G x).run t)⟩
 | .binOp o ty x y _=>some ⟨fun _ t U k=>Option.rec (motive:=fun _=>CR) (.err 1014) (fun v=>k ((HC j).run v t) U) (NX (NY P (yT x || yT y) o ty) ((oa G x).run t) ((oa G y).run t))⟩
 | .extract x i=>some ⟨fun _ t U k=>Option.rec (motive:=fun _=>CR) (.err 1036) (fun v=>k ((HC j).run v t) U) (N3 i ((oa G x).run t))⟩
 | .load ty x=>some ⟨fun _ t U k=>Option.rec (motive:=fun _=>CR) (.err 2009) (fun v=>k ((HC j).run v t) U) (B4 (dU P ty) U ((oa G x).run t))⟩
 | .fieldAddr s x i=>some ⟨fun _ t U k=>Option.rec (motive:=fun _=>CR) (.err 1024) (fun v=>k ((HC j).run v t) U) (OD (nV P s i) ((oa G x).run t))⟩
 | .indexAddr ty x i=>some ⟨fun _ t U k=>Option.rec (motive:=fun _=>CR) (.err 1026) (fun v=>k ((HC j).run v t) U) (OE (wJ P ty) ((oa G x).run t) ((oa G i).run t))⟩
 | _=>none
theorem Np {P:Program} {G:Cx} {pn:Bool} {n j:Nat} (a:Nat.ble (Nat.succ j) n=true) {op:Op} {c:Kf} (h:PK P G j op=some c) (ih:lf) (t:N V) (U:D) (k:N V->D->CR):
  c.run ih t U k=KV P G ih pn (Ac n<|some j) t k ((Lh P G op).run t U):=by
 have key:∀(e:Nat) (x:Option V),Option.rec (motive:=fun _=>CR) (.err e) (fun v=>k ((HC j).run v t) U) x=KV P G ih pn (Ac n<|some j) t k (pG U e x):=by
  intro e x;cases x with
  | none=>rfl
  | some v=>
   show k ((HC j).run v t) U=(Ac n<|some j).run t v 80 (K8 k U);unfold Ac;dsimp only;rw[a];rfl
 cases op<;>first | (cases h;done) | (cases h;exact key _ _)
def OY (P:Program) (G:Cx) (pn:Bool) (n:Nat) (o:Oper):Kf:=
 match o.dst with
 | some j=>bif Nat.ble (Nat.succ j) n then(match PK P G j o.op with | some c=>c | none=>⟨fun ih t U k=>KV P G ih pn (Ac n<|some j) t k ((Lh P G o.op).run t U)⟩) else⟨fun ih t U k=>KV P G ih pn (Ac n<|some j) t k ((Lh P G o.op).run t U)⟩
 | none=>⟨fun ih t U k=>KV P G ih pn (Ac n none) t k ((Lh P G o.op).run t U)⟩
theorem No (P:Program) (G:Cx) (pn:Bool) (n:Nat) (o:Oper) (ih:lf) (t:N V) (U:D) (k:N V->D->CR):(OY P G pn n o).run ih t U k=KV P G ih pn (Ac n o.dst) t k ((Lh P G o.op).run t U):=by
 unfold OY;cases hd:o.dst with
 | none=>rfl
 | some j=>
  dsimp only;cases a:Nat.ble (Nat.succ j) n with
  | false=>rfl
  | true=>
   simp only[cond_true];cases b:PK P G j o.op with
   | none=>rfl
   | some c=>exact Np a b ih t U k
def Kc (P:Program) (G:Cx) (pn:Bool) (ops:Array Oper) (n:Nat) (o:Oper):Kf:=
 match o.guard with
 | none=>OY P G pn n o
 | some _=>⟨fun ih t U k=>JX ops o (Ac n o.dst) t U k (KV P G ih pn (Ac n o.dst) t k ((Lh P G o.op).run t U)) (bM ops t o)⟩
theorem IG (P:Program) (G:Cx) (ih:lf) (pn:Bool) (n:Nat) (dst:Option Nat) (t:N V) (k:N V->D->CR) (r:HR):
  KV P G ih pn (Ac n dst) t k r=match lT P G ih r with | .ret v U'=>(match dI t n dst v with | some t'=>k t' U' | none=>.err 80) | .mO v U'=>Lj pn v t U' | .err e=>.err e:=by
 cases r with
 | val v U=>show(Ac n dst).run t v 80 (K8 k U)=_;rw[Ad];rfl
 | skip U=>show(Ac n dst).run t unit 80 (K8 k U)=_;rw[Ad];rfl
 | enter f args U=>
  show PV pn (Ac n dst) t k (Bm P G ih f args U)=_;rw[Bn];show _=match mw P G ih f args U with | .ret v U'=>_ | .mO v U'=>_ | .err e=>_
  cases mw P G ih f args U with
  | ret v U'=>show(Ac n dst).run t v 80 (K8 k U')=_;rw[Ad];rfl
  | mO v U'=>rfl
  | err e=>rfl
 | round l args U=>
  rfl
 | mO v U=>rfl
 | err e=>rfl
theorem Es (P:Program) (G:Cx) (pn:Bool) (ops:Array Oper) (n:Nat) (o:Oper) (ih:lf) (t:N V) (U:D) (k:N V->D->CR):(Kc P G pn ops n o).run ih t U k=ju P G ih pn ops n o t U k:=by
 unfold Kc ju;cases a:o.guard with
 | none=>
  have:bM ops t o=some true:=by unfold bM;rw[a]
  rw[this];show(OY P G pn n o).run ih t U k=_;rw[No,IG,Je]
  all_goals rfl
 | some jw=>
  show JX ops o (Ac n o.dst) t U k (KV P G ih pn (Ac n o.dst) t k ((Lh P G o.op).run t U)) (bM ops t o)=_;rw[IG,Je];unfold JX;cases bM ops t o with
  | none=>rfl
  | some b=>
   cases b with
   | true=>rfl
   | false=>show(Ac n o.dst).run t unit 84 (K8 k U)=_;rw[Ad];rfl
def Jr (P:Program) (G:Cx) (ops:Array Oper) (n:Nat) (l:List Oper):Kf:=
 List.rec (motive:=fun _=>Kf) ⟨fun _ t U k=>k t U⟩ (fun o _ c=>⟨fun ih t U k=>(Kc P G true ops n o).run ih t U (fun t U=>c.run ih t U k)⟩) l
def wh (d:List DE) (t:N V) (U:D):CR:=.ok .normal t d U
theorem FI (P:Program) (G:Cx) (ops:Array Oper) (n:Nat) (ih:lf) (d:List DE):∀(l:List Oper) (t:N V) (U:D),(Jr P G ops n l).run ih t U (wh d)=sW P G ih ops n d l t U
 | [],t,U=>rfl
 | o::l,t,U=>by
  show(Kc P G true ops n o).run ih t U (fun t U=>(Jr P G ops n l).run ih t U (wh d))=ju P G ih true ops n o t U (sW P G ih ops n d l);rw[Es];congr 1;funext t' U';exact FI P G ops n ih d l t' U'
def zA (P:Program) (G:Cx) (ops:Array Oper) (rc:List Nat) (k:N V->D->CR) (t:N V) (U:D):CR:=bif dn P G ops t U rc then k t U else .err 86
def xg (P:Program) (G:Cx) (ops:Array Oper) (n:Nat) (l:List (Nat×List Nat)):Kf:=
 List.rec (motive:=fun _=>Kf) ⟨fun _ t U k=>k t U⟩ (fun p _ c=>match nth ops.toList p.1 with
  | some o=>(match p.2 with
   | []=>⟨fun ih t U k=>(Kc P G false ops n o).run ih t U (fun t U=>c.run ih t U k)⟩
   | rc=>⟨fun ih t U k=>(Kc P G false ops n o).run ih t U (zA P G ops rc (fun t U=>c.run ih t U k))⟩)
  | none=>⟨fun _ _ _ _=>.err 87⟩) l
theorem xh (P:Program) (G:Cx) (ops:Array Oper) (n:Nat) (ih:lf) (d:List DE):∀(l:List (Nat×List Nat)) (t:N V) (U:D),(xg P G ops n l).run ih t U (wh d)=ke P G ih ops n d l t U
 | [],t,U=>rfl
 | (i,rc)::l,t,U=>by
  show(match nth ops.toList i with
   | some o=>(match rc with
    | []=>(⟨fun ih t U k=>(Kc P G false ops n o).run ih t U (fun t U=>(xg P G ops n l).run ih t U k)⟩:Kf)
    | rc=>⟨fun ih t U k=>(Kc P G false ops n o).run ih t U (zA P G ops rc (fun t U=>(xg P G ops n l).run ih t U k))⟩)
   | none=>⟨fun _ _ _ _=>.err 87⟩).run ih t U (wh d)=(match ops[i]? with
   | some o=>ju P G ih false ops n o t U (fun t' U'=>bif dn P G ops t' U' rc then ke P G ih ops n d l t' U' else .err 86)
   | none=>.err 87)
  rw[eF,aT_];cases ops[i]? with
  | none=>rfl
  | some o=>
   dsimp only;cases rc with
   | nil=>
    show(Kc P G false ops n o).run ih t U (fun t U=>(xg P G ops n l).run ih t U (wh d))=_;rw[Es];congr 1;funext t' U';exact xh P G ops n ih d l t' U'
   | cons q rc=>
    show(Kc P G false ops n o).run ih t U (zA P G ops (q::rc) (fun t U=>(xg P G ops n l).run ih t U (wh d)))=_;rw[Es];congr 1;funext t' U';unfold zA;dsimp only;rw[xh P G ops n ih d l t' U']
structure OZ where
 run:lf->N V->List DE->Option Pos->D->CR
def Pa (P:Program) (G:Cx) (c:Code) (n:Nat):OZ:=
 match c with
 | .skip | .label _=>⟨fun _ t d _ U=>.ok .normal t d U⟩
 | .region _ ops draw=>bif draw then(bif sb P ops then⟨fun ih t d _ U=>(xg P G ops n<|jB P ops).run ih t U (wh d)⟩ else⟨fun _ _ _ _ _=>.err 88⟩)
   else(bif lE ops.toList then⟨fun _ _ _ _ _=>.err 96⟩ else⟨fun ih t d _ U=>ya d ((Jr P G ops n ops.toList).run ih t U<|wh d)⟩)
 | .seq a b=>⟨fun ih t d ro U=>yj (ih a t n d ro U) (fun t d U=>ih b t n d ro U)⟩
 | .cond x a b=>⟨fun ih t d ro U=>yG ((oa G x).run t) (ih a t n d ro U) (ih b t n d ro U)⟩
 | .block id b=>⟨fun ih t d ro U=>tG id (ih b t n d ro U)⟩
 | .scope b=>⟨fun ih t d ro U=>Em (ih b t n d ro U)⟩
 | .loop b=>⟨fun ih t d ro U=>yj (ih b t n d ro U) (fun t d U=>ih (.loop b) t n d ro U)⟩
 | .exit id=>⟨fun _ t d _ U=>.ok (.exit id) t d U⟩
 | .ret=>⟨fun _ t d _ U=>.ok .ret t d U⟩
 | _=>⟨fun _ _ _ _ _=>.err 99⟩
theorem Mx (P:Program) (G:Cx) (c:Code) (n:Nat) (ih:lf) (t:N V) (d:List DE) (ro:Option Pos) (U:D):(Pa P G c n).run ih t d ro U=FQ P G ih c t n d ro U:=by
 cases c with
 | region id ops draw=>
  cases draw with
  | false=>
   show(bif lE ops.toList then(⟨fun _ _ _ _ _=>.err 96⟩:OZ) else⟨fun ih t d _ U=>ya d ((Jr P G ops n ops.toList).run ih t U<|wh d)⟩).run ih t d ro U=bif lE ops.toList then .err 96 else ya d (sW P G ih ops n d ops.toList t U);cases lE ops.toList with
   | true=>rfl
   | false=>
    show ya d ((Jr P G ops n ops.toList).run ih t U<|wh d)=ya d (sW P G ih ops n d ops.toList t U);rw[FI]
  | true=>
   show(bif sb P ops then(⟨fun ih t d _ U=>(xg P G ops n<|jB P ops).run ih t U (wh d)⟩:OZ) else⟨fun _ _ _ _ _=>.err 88⟩).run ih t d ro U=uF P G ih ops n d t U;unfold uF;cases sb P ops with
   | false=>rfl
   | true=>exact xh P G ops n ih d (jB P ops) t U
 | cond x a b=>show yG ((oa G x).run t) _ _=_;rw[jA];rfl
 | _=>rfl
def Nm (P:Program) (G:Cx) (fuel:Nat):lf:=Nat.rec (motive:=fun _=>lf) (fun _ _ _ _ _ _=>.err 100) (fun _ ih c t n d ro U=>(Pa P G c n).run ih t d ro U) fuel
theorem FM (P:Program) (G:Cx):∀(fuel:Nat),Nm P G fuel=ew P G fuel
 | 0=>rfl
 | k+1=>by
  funext c t n d ro U;show(Pa P G c n).run (Nm P G k) t d ro U=FQ P G (ew P G k) c t n d ro U;rw[Mx,FM P G k]
def BG (P:Program) (G:Cx) (fuel:Nat) (f:Nat) (args:List V) (U:D):KR:=Bm P G (Nm P G fuel) f args U
theorem Ir (P:Program) (G:Cx) (fuel:Nat) (f:Nat) (args:List V) (U:D):BG P G fuel f args U=wo P G fuel f args U:=by
 unfold BG wo;rw[Bn,FM]
end Go.Ev
namespace Go.Ev
variable [Env]
open Go.ChangeShapes Go.WideShapes Go.ChangeAt Go.RowKit
def yQ (one:TypeId->DataW Unit->Option (List Value)) (P:Program):List (Nat×TypeId)->Nat->List (DataW Unit)->Option (List Value)
 | [],_,[]=>some []
 | (o,t)::l,off,d::ds=>
  match one t d,yQ one P l (off+P.cellsOf t) ds with
  | some vs,some us=>if o=off/\vs.length=P.cellsOf t then some (vs++us) else none
  | _,_=>none
 | _,_,_=>none
def rI (P:Program):Nat->TypeId->DataW Unit->Option (List Value)
 | 0,_,_=>none
 | n+1,t,d=>
  match P.underlying t,d with
  | some .bool,.lit (.bool b)=>some [.bool b]
  | some (.int k),.lit (.int k' i)=>if k'=k then some [.int k i] else none
  | some (.struct fs),.agg ps=>match yQ (rI P n) P (fs.toList.map fun f=>(f.offset,f.type)) 0 ps with
   | some vs=>if vs.length=P.cellsOf t then some vs else none
   | none=>none
  | some (.array m e),.agg ps=>match yQ (rI P n) P ((List.range m).map fun i=>(i*P.cellsOf e,e)) 0 ps with
   | some vs=>if vs.length=P.cellsOf t then some vs else none
   | none=>none
  | _,_=>none
theorem wx {P:Program} {w:World} {base:Nat} {sp:Nat->Bool} {held:Bool} {fuel:Nat} {one:TypeId->DataW Unit->Option (List Value)} {cs:List Value}
  (ih:∀t l d p vs,DataW.trod (fun _=>()) P w base sp held fuel t l=some (d,p)->one t d=some vs->l=vs) {α:Type} (g:α->Nat×TypeId):
  ∀(l:List α) (off:Nat) (xs:List (DataW Unit×List MemPlace)) (vs:List Value),
   (l.mapM fun x=>DataW.trod (fun _=>()) P w base sp held fuel (g x).2 ((cs.drop (g x).1).take<|P.cellsOf (g x).2))=some xs->yQ one P (l.map g) off (xs.map (·.1))=some vs->
   (cs.drop off).take vs.length=vs
 | [],off,xs,vs,h,a=>by
  simp at h;subst h;simp[yQ] at a;subst a;simp
 | x::l,off,xs,vs,h,a=>by
  simp only[List.mapM_cons,Option.bind_eq_bind,Option.bind_eq_some_iff,Option.pure_def,oJ_] at h;obtain⟨⟨d,p⟩,b,r,c,rfl⟩:=h;simp only[List.map_cons,yQ] at a;split at a
  ·rename_i v1 e f i;split at a
   ·rename_i j;obtain⟨k,m⟩:=j;cases a;have k1:=ih _ _ _ _ _ b f;have k2:=wx ih g l _ r e c i;rw[lA_,List.take_add,m,List.drop_drop,k2,<-k,k1]
   cases a
  cases a
theorem BK {P:Program} {w:World} {base:Nat} {sp:Nat->Bool} {held:Bool}:∀(m fuel:Nat) (t:TypeId) (cs:List Value) (d:DataW Unit) (p:List MemPlace) (vs:List Value),
  DataW.trod (fun _=>()) P w base sp held fuel t cs=some (d,p)->rI P m t d=some vs->cs=vs
 | 0,_,_,_,_,_,_,_,h=>by cases h
 | _+1,0,_,_,_,_,_,h,_=>by simp[DataW.trod] at h
 | m+1,fuel+1,t,cs,d,p,vs,h,a=>by
  have ih:∀t l d p vs,DataW.trod (fun _=>()) P w base sp held fuel t l=some (d,p)->rI P m t d=some vs->l=vs:=fun t l d p vs=>BK m fuel t l d p vs
  simp only[rI] at a;split at a
  ·rename_i hu;cases a;unfold DataW.trod at h;rw[hu] at h;split at h<;>simp_all
  ·rename_i hu;split at a
   ·rename_i hk;cases a;unfold DataW.trod at h;rw[hu] at h;split at h<;>simp_all
   cases a
  ·rename_i fs ps hu;split at a
   ·rename_i vs' g;split at a
    ·rename_i j;cases a;unfold DataW.trod at h;rw[hu] at h;dsimp only at h;split at h
     ·rename_i b;obtain⟨xs,hm,k⟩:=oM_.1 h;have c:ps=xs.map (·.1):=by have:=congrArg Prod.fst k;simpa using this.symm
      subst c;have:=wx (cs:=cs) ih (fun f:Field=>(f.offset,f.type)) fs.toList 0 xs vs hm g;rw[List.drop_zero,j,<-b,List.take_length] at this;exact this
     cases h
    cases a
   cases a
  ·rename_i n e ps hu;split at a
   ·rename_i vs' g;split at a
    ·rename_i j;cases a;unfold DataW.trod at h;rw[hu] at h;dsimp only at h;split at h
     ·rename_i b;obtain⟨xs,hm,k⟩:=oM_.1 h;have c:ps=xs.map (·.1):=by have:=congrArg Prod.fst k;simpa using this.symm
      subst c;have:=wx (cs:=cs) ih (fun i:Nat=>(i*P.cellsOf e,e)) (List.range n) 0 xs vs hm g;rw[List.drop_zero,j,<-b,List.take_length] at this;exact this
     cases h
    cases a
   cases a
  cases a
theorem oT {P:Program} {w:World} {l:List (String×DataW Unit)} (n:String) {d:DataW Unit} {g:Nat} {t:TypeId} {m:Nat} {vs:List Value}
  (h:laidMetH P l w) (f:l.filter (fun x=>x.1 == n)= [(n,d)]) (i:d.handleName?=none) (b:P.globalNamed n=some g) (j:(P.globals[g]?).map (·.type)=some t) (k:rI P m t d=some vs):
  ∃e fr,w.heap[g]?=some (.cells vs.toArray e fr):=by
 have h1:=h.filter fun x=>x.1 == n
 rw[f] at h1
 have o:laidMet P [(n,d)] w:=by
  unfold laidMetH at h1;simp only[List.filter_cons,i,List.filter_nil,Option.isSome_none] at h1;exact h1
 obtain⟨ps,⟨g',t',cs,fuel,p,q,c,k2,a,r,_,_⟩,_,_⟩:=o;rw[b] at c;cases c;rw[j] at k2;cases k2;have k5:=BK m fuel t cs.toList d p vs r k;unfold World.var? at a;rw[b] at a;simp only[Option.bind_some] at a;split at a
 ·rename_i cs' e fr s;cases a;exact⟨e,fr,by rw[s,<-k5]⟩
 cases a
theorem vI {α β:Type} {f:α->Option β}:∀{l:List α} {r:List β},cW f l=some r->r.length=l.length/\∀(i:Nat) (v:β),r[i]?=some v->∃y,l[i]?=some y/\f y=some v
 | [],r,h=>by
  rw[iK] at h;cases h;exact⟨Z,fun i v a=>by simp at a⟩
 | x::l,r,h=>by
  obtain⟨y,r',b,c,rfl⟩:=gX h;obtain⟨d,k2⟩:=vI c;refine⟨by simp[d],fun i v a=>?_⟩;cases i with
  | zero=>simp at a;subst a;exact⟨x,Z,b⟩
  | succ i=>
   simp only[List.getElem?_cons_succ] at a⊢;exact k2 i v a
theorem lB.of {w:World} {g:Nat} {cells:List V} {vs:List Value} {e:TypeId} {fr:Nat×Nat} (b:w.heap[g]?=some (.cells vs.toArray e fr)) (c:cW kK vs=some cells):lB w (g,cells):=by
 obtain⟨d,k2⟩:=vI c;refine⟨vs.toArray,e,fr,b,by simp[d],fun i v f=>?_⟩;obtain⟨y,h,a⟩:=k2 i v f;exact⟨y,by simpa using h,oY a⟩
def UG (gl:Nat) (l:List (Nat×List V)) (E:Nat->TypeId):D:=⟨gl,IM l E⟩
theorem UG_get {gl:Nat} {l:List (Nat×List V)} {E:Nat->TypeId} {b:Nat} {o:cG} (h:(UG gl l E).m.get b=some o):∃x∈l,x.1=b/\o= .row x.2 (E x.1) true:=DW E h
def ue (w:World) (b:Nat):Nat:=
 match w.heap[b]? with
 | some (.cells cs _ _)=>cs.size
 | _=>0
def elemAt (w:World) (b:Nat):TypeId:=
 match w.heap[b]? with
 | some (.cells _ e _)=>e
 | _=>0
def SG (w:World) (gl:Nat):dh:=fun b=>if b<gl then some ⟨b,0,ue w b⟩ else none
theorem SG_some {w:World} {gl:Nat} {b:Nat} {l:Loc} (h:SG w gl b=some l):b<gl/\l=⟨b,0,ue w b⟩:=by
 unfold SG at h;split at h
 ·rename_i a;cases h;exact⟨a,Z⟩
 cases h
def AJ (gl:Nat) (l:List (Nat×List V)):Bool:=l.all fun x=>Nat.blt x.1 gl && eH x.2
theorem N6 {w:World} {gl:Nat} {l:List (Nat×List V)} (t:HG w) (n:gl<=w.heap.size) (p:AJ gl l=true) (C:∀x∈l,lB w x):Inv (SG w gl) (UG gl l<|elemAt w) w:=by
 have a:∀x∈l,x.1<gl/\eH x.2=true:=fun x d=>by
  have:=aE_.1 p x d;rw[bA_,sE] at this;exact this
 refine⟨⟨fun b k=>?_,fun b l' h=>?_,fun b o l' f g=>?_,fun b b' o o' l1 l2 f g h3 h4 he aa=>?_⟩,t.1,t.2,fun r _ ⟨b,o,l',f,g,_,_⟩=>by
  obtain⟨x,_,_,rfl⟩:=UG_get f;cases g⟩
 ·have j:¬b<gl:=Nat.not_lt.2 k;refine⟨by unfold SG;rw[if_neg j],?_⟩;cases h:(UG gl l<|elemAt w).m.get b with
  | none=>rfl
  | some o=>
   obtain⟨x,d,rfl,_⟩:=UG_get h;exact absurd (a x d).1 j
 ·obtain⟨k,rfl⟩:=SG_some h;exact Nat.lt_of_lt_of_le k n
 ·obtain⟨x,d,rfl,rfl⟩:=UG_get f;obtain⟨k,rfl⟩:=SG_some g;obtain⟨c,e,fr,q,k2,E⟩:=C x d;have u:ue w x.1=c.size:=by unfold ue;rw[q]
  have he:elemAt w x.1=e:=by unfold elemAt;rw[q]
  refine⟨_,q,c,fr,by rw[he],?_,?_,fun i v z=>?_,fun h=>by cases h⟩
  ·simp[u]
  ·show x.2.length<=ue w x.1;rw[u];exact k2
  obtain⟨y,A,s⟩:=E i v z;exact⟨y,by simpa using A,nX (lg (a x d).2 v<|gB_ z) s⟩
 obtain⟨x,d,rfl,rfl⟩:=UG_get f;obtain⟨y,A,rfl,rfl⟩:=UG_get g;exact⟨Z,Z⟩
theorem kr.Lf {w w':World} {gl:Nat} {l:List (Nat×List V)} {E:Nat->TypeId} {S S':dh} {U':D} (h:eY S (UG gl l E) w S' U' w'):kr w w':=
 ⟨h.os,h.out,h.tape,h.size,fun r a=>h.frame r a fun⟨b,o,l',c,d,_⟩=>by
  obtain⟨x,_,_,rfl⟩:=UG_get c;cases d⟩
def qp:KR->Bool
 | .ret (.bool true) _=>true
 | _=>false
theorem Ap {r:KR} (h:qp r=true):∃U,r= .ret (.bool true) U:=by
 unfold qp at h;split at h
 ·exact⟨_,Z⟩
 cases h
theorem Dk {P:Program} {G:Cx} (hm:P.follows .mixedOrders=true) (d:AQ P G) {fuel f:Nat} {w:World} (i:HG w) (a:G.gl<=w.heap.size) (b:AJ G.gl G.laid=true) (j:∀x∈G.laid,lB w x)
  (h:∀E,qp (BG P G fuel f [] (UG G.gl G.laid E))=true):Calls P f #[] w fun e w'=>e= .returned (.bool true)/\kr w w':=by
 have h:=h (elemAt w);rw[Ir] at h;obtain⟨U,h⟩:=Ap h;refine pU hm d h (N6 i a b j) (fun g k=>⟨_,by show SG w G.gl g=_;unfold SG;rw[if_pos k]⟩) dp.nil fun S' w' x _ st c=>?_
 simp only[H] at c;exact⟨by rw[c],kr.Lf st⟩
theorem DV {P:Program} {G:Cx} (hm:P.follows .mixedOrders=true) (c:AQ P G) {fuel f:Nat} (a:AJ G.gl G.laid=true) (h:∀E,qp (BG P G fuel f [] (UG G.gl G.laid E))=true):EO P G.gl G.laid f [] (.bool true):=fun w xs b d g i=>by
 have:xs= #[]:=by
  have:=i.eQ;rw[<-Array.toList_inj];exact this
 subst this;exact(Dk hm c (w:=w) d b a g h).mono fun e w' ⟨j,k⟩=>⟨_,j,by simp only[H],k⟩
end Go.Ev
namespace Go.Ev
variable [Env]
section
variable {P:Program} {G:Cx}
def Ev (P:Program) (G:Cx) (c:Code) (n:Nat) (t:N V) (U:D) (Q:Ex->N V->D->Prop):Prop:=
 ∃(K:Nat) (e:Ex) (t':N V) (U':D),(∀k,K<=k->ew P G k c t n [] none U= .ok e t' [] U')/\Q e t' U'
def bk (P:Program) (G:Cx) (f:Nat) (args:List V) (U:D) (R:V->D->Prop):Prop:=
 ∃(K:Nat) (v:V) (U':D),(∀k,K<=k->mw P G (ew P G k) f args U= .ret v U')/\R v U'
def bP (P:Program) (G:Cx) (ops:Array Oper) (n:Nat) (l:List Oper) (t:N V) (U:D) (Q:Ex->N V->D->Prop):Prop:=
 ∃(K:Nat) (e:Ex) (t':N V) (U':D),(∀k,K<=k->sW P G (ew P G k) ops n [] l t U= .ok e t' [] U')/\Q e t' U'
def cE (P:Program) (G:Cx) (ops:Array Oper) (n:Nat) (l:List (Nat×List Nat)) (t:N V) (U:D) (Q:Ex->N V->D->Prop):Prop:=
 ∃(K:Nat) (e:Ex) (t':N V) (U':D),(∀k,K<=k->ke P G (ew P G k) ops n [] l t U= .ok e t' [] U')/\Q e t' U'
theorem Ev.mono {c:Code} {n:Nat} {t:N V} {U:D} {Q Q':Ex->N V->D->Prop} (h:Ev P G c n t U Q) (a:∀e t' U',Q e t' U'->Q' e t' U'):Ev P G c n t U Q':=
 let ⟨K,e,t',U',b,d⟩:=h;⟨K,e,t',U',b,a _ _ _ d⟩
theorem bk.mono {f:Nat} {args:List V} {U:D} {R R':V->D->Prop} (h:bk P G f args U R) (a:∀v U',R v U'->R' v U'):bk P G f args U R':=
 let ⟨K,v,U',b,c⟩:=h;⟨K,v,U',b,a _ _ c⟩
section
variable {n:Nat} {t:N V} {U:D} {Q:Ex->N V->D->Prop}
theorem aG (h:Q .normal t U):Ev P G .skip n t U Q:=⟨1,.normal,t,U,fun k hk=>by obtain⟨j,rfl⟩:∃j,k=j+1:=⟨k-1,by omega⟩;rfl,h⟩
theorem Io {l:Nat} (h:Q .normal t U):Ev P G (.label l) n t U Q:=⟨1,.normal,t,U,fun k hk=>by obtain⟨j,rfl⟩:∃j,k=j+1:=⟨k-1,by omega⟩;rfl,h⟩
theorem bx {id:Nat} (h:Q (.exit id) t U):Ev P G (.exit id) n t U Q:=⟨1,_,t,U,fun k hk=>by obtain⟨j,rfl⟩:∃j,k=j+1:=⟨k-1,by omega⟩;rfl,h⟩
theorem aB (h:Q .ret t U):Ev P G .ret n t U Q:=⟨1,_,t,U,fun k hk=>by obtain⟨j,rfl⟩:∃j,k=j+1:=⟨k-1,by omega⟩;rfl,h⟩
def cN (P:Program) (G:Cx) (n:Nat) (b:Code) (Q:Ex->N V->D->Prop) (e:Ex) (t:N V) (U:D):Prop:=
 match e with
 | .normal=>Ev P G b n t U Q
 | e=>Q e t U
theorem ak {a b:Code} (h:Ev P G a n t U (cN P G n b Q)):Ev P G (.seq a b) n t U Q:=by
 obtain⟨K,e,t',U',g,f⟩:=h
 have step:∀k,K<=k->ew P G (k+1) (.seq a b) t n [] none U=yj (.ok e t' [] U') (fun t d U=>ew P G k b t n d none U):=fun k c=>by
  show yj (ew P G k a t n [] none U) (fun t d U=>ew P G k b t n d none U)=_;rw[g k c]
 cases e with
 | normal=>
  obtain⟨i,l,m,o,p,q⟩:=f;refine⟨max K i+1,l,m,o,fun k c=>?_,q⟩;obtain⟨j,rfl⟩:∃j,k=j+1:=⟨k-1,by omega⟩;rw[step j B];exact p j B
 | _=>
  refine⟨K+1,_,t',U',fun k c=>?_,f⟩;obtain⟨j,rfl⟩:∃j,k=j+1:=⟨k-1,by omega⟩;rw[step j B];rfl
theorem zP {x:Operand} {a b:Code} {c:Bool} (d:bE G t x=some (.bool c)) (h:Ev P G (if c then a else b) n t U Q):Ev P G (.cond x a b) n t U Q:=by
 obtain⟨K,e,t',U',f,g⟩:=h;refine⟨K+1,e,t',U',fun k hk=>?_,g⟩;obtain⟨j,rfl⟩:∃j,k=j+1:=⟨k-1,by omega⟩;show yG (bE G t x) (ew P G j a t n [] none U) (ew P G j b t n [] none U)=_;rw[d];have:=f j B;cases c<;>exact this
def iL (id:Nat) (Q:Ex->N V->D->Prop) (e:Ex) (t:N V) (U:D):Prop:=
 match e with
 | .exit j=>if j=id then Q .normal t U else Q (.exit j) t U
 | e=>Q e t U
theorem aN {id:Nat} {b:Code} (h:Ev P G b n t U (iL id Q)):Ev P G (.block id b) n t U Q:=by
 obtain⟨K,e,t',U',f,c⟩:=h
 have step:∀k,K<=k->ew P G (k+1) (.block id b) t n [] none U=tG id (.ok e t' [] U'):=fun k a=>by
  show tG id (ew P G k b t n [] none U)=_;rw[f k a]
 cases e with
 | exit q=>
  by_cases d:q=id
  ·subst d;refine⟨K+1,.normal,t',U',fun k a=>?_,by simpa [iL] using c⟩;obtain⟨j,rfl⟩:∃j,k=j+1:=⟨k-1,by omega⟩;rw[step j B];show(bif Nat.beq q q then _ else _)=_;rw[Nat.beq_refl];rfl
  refine⟨K+1,.exit q,t',U',fun k a=>?_,by simpa [iL,d] using c⟩;obtain⟨j,rfl⟩:∃j,k=j+1:=⟨k-1,by omega⟩;rw[step j B];show(bif Nat.beq q id then _ else _)=_
  have:Nat.beq q id=false:=by
   cases g:Nat.beq q id with
   | false=>rfl
   | true=>exact absurd (nB g) d
  rw[this];rfl
 | _=>
  refine⟨K+1,_,t',U',fun k a=>?_,c⟩;obtain⟨j,rfl⟩:∃j,k=j+1:=⟨k-1,by omega⟩;rw[step j B];rfl
theorem KH {b:Code} (I_:Nat->N V->D->Prop) (step:∀j t U,I_ j t U->Ev P G b n t U (fun e t' U'=>match e with | .normal=>∃i,i<j/\I_ i t' U' | e=>Q e t' U')):
  ∀(j:Nat) (t:N V) (U:D),I_ j t U->Ev P G (.loop b) n t U Q:=by
 intro j;induction j using Nat.strongRecOn with
 | _ j ih=>
  intro t U g;obtain⟨K,e,t',U',h,f⟩:=step j t U g
  have st:∀k,K<=k->ew P G (k+1) (.loop b) t n [] none U=yj (.ok e t' [] U') (fun t d U=>ew P G k (.loop b) t n d none U):=fun k a=>by
   show yj (ew P G k b t n [] none U) (fun t d U=>ew P G k (.loop b) t n d none U)=_;rw[h k a]
  cases e with
  | normal=>
   obtain⟨i,l,c⟩:=f;obtain⟨m,o,p,r,s,u⟩:=ih i l t' U' c;refine⟨max K m+1,o,p,r,fun k a=>?_,u⟩;obtain⟨q,rfl⟩:∃q,k=q+1:=⟨k-1,by omega⟩;rw[st q B];exact s q B
  | _=>
   refine⟨K+1,_,t',U',fun k a=>?_,f⟩;obtain⟨q,rfl⟩:∃q,k=q+1:=⟨k-1,by omega⟩;rw[st q B];rfl
theorem ai {id:Nat} {ops:Array Oper} (a:lE ops.toList=false) (h:bP P G ops n ops.toList t U Q):Ev P G (.region id ops false) n t U Q:=by
 obtain⟨K,e,t',U',b,c⟩:=h;refine⟨K+1,e,t',U',fun k hk=>?_,c⟩;obtain⟨j,rfl⟩:∃j,k=j+1:=⟨k-1,by omega⟩;show(bif lE ops.toList then .err 96 else ya [] (sW P G (ew P G j) ops n [] ops.toList t U))=_;rw[a,b j B];cases e<;>rfl
theorem wm {id:Nat} {ops:Array Oper} (a:sb P ops=true) (h:cE P G ops n (jB P ops) t U Q):Ev P G (.region id ops true) n t U Q:=by
 obtain⟨K,e,t',U',b,c⟩:=h;refine⟨K+1,e,t',U',fun k hk=>?_,c⟩;obtain⟨j,rfl⟩:∃j,k=j+1:=⟨k-1,by omega⟩;show uF P G (ew P G j) ops n [] t U=_;unfold uF;rw[a];exact b j B
theorem af {ops:Array Oper} (h:Q .normal t U):bP P G ops n [] t U Q:=⟨0,.normal,t,U,fun _ _=>Z,h⟩
theorem O {ops:Array Oper} {o:Oper} {l:List Oper} {v:V} {t':N V} {U':D} (hw:bM ops t o=some true) (a:dW P G (bE G t) U o.op= .val v U') (b:dI t n o.dst v=some t') (h:bP P G ops n l t' U' Q):bP P G ops n (o::l) t U Q:=by
 obtain⟨K,e,c,d,f,g⟩:=h;refine⟨K,e,c,d,fun k i=>?_,g⟩;show ju P G (ew P G k) true ops n o t U (sW P G (ew P G k) ops n [] l)=_;unfold ju;rw[hw];dsimp only;rw[a];dsimp only[lT];rw[b];exact f k i
theorem iO {ops:Array Oper} {o:Oper} {l:List Oper} {t':N V} {U':D} (hw:bM ops t o=some true) (a:dW P G (bE G t) U o.op= .skip U') (b:dI t n o.dst unit=some t') (h:bP P G ops n l t' U' Q):bP P G ops n (o::l) t U Q:=by
 obtain⟨K,e,c,d,f,g⟩:=h;refine⟨K,e,c,d,fun k i=>?_,g⟩;show ju P G (ew P G k) true ops n o t U (sW P G (ew P G k) ops n [] l)=_;unfold ju;rw[hw];dsimp only;rw[a];dsimp only[lT];rw[b];exact f k i
theorem ae {ops:Array Oper} {o:Oper} {l:List Oper} {t':N V} (hw:bM ops t o=some false) (a:dI t n o.dst unit=some t') (h:bP P G ops n l t' U Q):bP P G ops n (o::l) t U Q:=by
 obtain⟨K,e,b,c,d,f⟩:=h;refine⟨K,e,b,c,fun k g=>?_,f⟩;show ju P G (ew P G k) true ops n o t U (sW P G (ew P G k) ops n [] l)=_;unfold ju;rw[hw];dsimp only;rw[a];exact d k g
theorem DD {ops:Array Oper} {o:Oper} {l:List Oper} {f:Nat} {args:List V} {a:D} (hw:bM ops t o=some true) (b:dW P G (bE G t) U o.op= .enter f args a)
  (h:bk P G f args a fun v U'=>∃t',dI t n o.dst v=some t'/\bP P G ops n l t' U' Q):bP P G ops n (o::l) t U Q:=by
 obtain⟨K,v,U',c,t',d,g,e,i,j,m,p⟩:=h;refine⟨max K g,e,i,j,fun k hk=>?_,p⟩;show ju P G (ew P G k) true ops n o t U (sW P G (ew P G k) ops n [] l)=_;unfold ju;rw[hw];dsimp only;rw[b];dsimp only[lT];rw[c k B];dsimp only;rw[d];exact m k B
theorem ba {ops:Array Oper} (h:Q .normal t U):cE P G ops n [] t U Q:=⟨0,.normal,t,U,fun _ _=>Z,h⟩
theorem al {ops:Array Oper} {i:Nat} {o:Oper} {l:List (Nat×List Nat)} {v:V} {t':N V} {U':D} (a:ops[i]?=some o) (hw:bM ops t o=some true) (b:dW P G (bE G t) U o.op= .val v U') (c:dI t n o.dst v=some t') (h:cE P G ops n l t' U' Q):cE P G ops n ((i,[])::l) t U Q:=by
 obtain⟨K,e,d,f,g,j⟩:=h;refine⟨K,e,d,f,fun k m=>?_,j⟩
 show(match ops[i]? with
  | some o=>ju P G (ew P G k) false ops n o t U (fun t' U'=>bif dn P G ops t' U' [] then ke P G (ew P G k) ops n [] l t' U' else .err 86)
  | none=>.err 87)=_
 rw[a];unfold ju;dsimp only;rw[hw];dsimp only;rw[b];dsimp only[lT];rw[c];exact g k m
theorem au {ops:Array Oper} {i:Nat} {o:Oper} {l:List (Nat×List Nat)} {t':N V} (a:ops[i]?=some o) (hw:bM ops t o=some false) (b:dI t n o.dst unit=some t') (h:cE P G ops n l t' U Q):cE P G ops n ((i,[])::l) t U Q:=by
 obtain⟨K,e,c,d,f,g⟩:=h;refine⟨K,e,c,d,fun k j=>?_,g⟩
 show(match ops[i]? with
  | some o=>ju P G (ew P G k) false ops n o t U (fun t' U'=>bif dn P G ops t' U' [] then ke P G (ew P G k) ops n [] l t' U' else .err 86)
  | none=>.err 87)=_
 rw[a];unfold ju;dsimp only;rw[hw];dsimp only;rw[b];exact f k j
theorem BE {ops:Array Oper} {i:Nat} {o:Oper} {rc:List Nat} {l:List (Nat×List Nat)} {f:Nat} {args:List V} {a:D} (b:ops[i]?=some o) (hw:bM ops t o=some true) (c:dW P G (bE G t) U o.op= .enter f args a)
  (h:bk P G f args a fun v U'=>∃t',dI t n o.dst v=some t'/\dn P G ops t' U' rc=true/\cE P G ops n l t' U' Q):cE P G ops n ((i,rc)::l) t U Q:=by
 obtain⟨K,v,U',d,t',g,j,m,e,p,q,r,s⟩:=h;refine⟨max K m,e,p,q,fun k hk=>?_,s⟩
 show(match ops[i]? with
  | some o=>ju P G (ew P G k) false ops n o t U (fun t' U'=>bif dn P G ops t' U' rc then ke P G (ew P G k) ops n [] l t' U' else .err 86)
  | none=>.err 87)=_
 rw[b];unfold ju;dsimp only;rw[hw];dsimp only;rw[c];dsimp only[lT];rw[d k B];dsimp only;rw[g];dsimp only;rw[j];exact r k B
end
theorem KG {f:Nat} {fn:Func} {c:Code} {args:List V} {U:D} {R:V->D->Prop} {t:N V} (b:G.HB f args U=none) (d:G.HD f args=none) (a:G.stop f args U=none) (g:G.fk f=false)
  (i:P.funcs[f]?=some fn) (j:fn.body=some c) (l:ry fn.ntmps args=some t)
  (h:Ev P G c fn.ntmps t U fun e t' U'=>(e= .normal∨e= .ret)/\∃v,fm P fn t' U'=some v/\R v U'):bk P G f args U R:=by
 obtain⟨K,e,t',U',m,he,v,o,p⟩:=h;refine⟨K,v,U',fun k q=>?_,p⟩;unfold mw;rw[b];dsimp only;rw[d];dsimp only;rw[a];dsimp only;rw[g];simp only[cond_false];unfold lj;rw[i];dsimp only;rw[j,l];dsimp only;rw[m k q];rcases he with rfl | rfl<;>
 ·dsimp only;unfold x8;rw[show wP P G (ew P G k) [] .ret U'=some (.ret,U') from Z];dsimp only;rw[o]
theorem Im {f:Nat} {args:List V} {U:D} {R:V->D->Prop} {v:V} (a:G.HB f args U=none) (b:G.HD f args=some v) (c:eH args=true) (d:mD v=true) (e:nD G.gl U G.laid=true) (h:R v U):bk P G f args U R:=by
 refine⟨0,v,U,fun k _=>?_,h⟩;unfold mw;rw[a];dsimp only;rw[b];dsimp only;rw[c,d,e];rfl
end
def qw (P:Program):List Field->Nat->Option Nat
  | [],off=>some off
  | f::r,off=>if f.offset=off then qw P r (off+P.cellsOf f.type) else none
def dz {H_:Type} (P:Program) (U:D):Nat->TypeId->DataW H_->List V->Prop
  | 0,_,_,_=>False
  | fuel+1,t,d,vs=>
    match P.underlying t,d with
    | some .bool,.lit (.bool b)=>vs= [.bool b]
    | some (.int k),.lit (.int k' n)=>k'=k/\(Lit.int k n).wf=true/\vs= [.int k n]
    | some .string,.lit (.string s)=>s.length<=maxLen/\vs= [.str<|s.map UInt8.toNat]
    | some (.slice _),.nil=>vs= [.ax]
    | some (.slice e),.slice elems spare=>1<=P.cellsOf e->∃(b:Nat) (c:pH) (cells:List V) (e':Nat),vs= [.slice b 0 elems.length c]/\elems.length<=maxLen/\U.m.get b=some (.row cells e' true)/\
        (c= .known (elems.length+spare.length)∨c= .upto (P.cellsOf e))/\cells.length=elems.length*P.cellsOf e/\
        ∀(i:Nat) (x:DataW H_),elems[i]?=some x->dz P U fuel e x ((cells.drop (i*P.cellsOf e)).take<|P.cellsOf e)
    | some (.struct fs),.agg parts=>qw P fs.toList 0=some (P.cellsOf t)->parts.length=fs.size/\vs.length=P.cellsOf t/\
        ∀(i:Nat) (f:Field) (x:DataW H_),fs[i]?=some f->parts[i]?=some x->dz P U fuel f.type x ((vs.drop f.offset).take<|P.cellsOf f.type)
    | some (.array n e),.agg parts=>P.cellsOf t=n*P.cellsOf e->parts.length=n/\vs.length=P.cellsOf t/\
        ∀(i:Nat) (x:DataW H_),parts[i]?=some x->dz P U fuel e x ((vs.drop (i*P.cellsOf e)).take<|P.cellsOf e)
    | _,_=>True
theorem dz.mono {H_:Type} {P:Program} {U U':D} (he:∀(b:Pos) (o:cG),U.m.get b=some o->U'.m.get b=some o):∀(fuel:Nat) (t:TypeId) (d:DataW H_) (vs:List V),dz P U fuel t d vs->dz P U' fuel t d vs
  | 0,_,_,_,h=>h
  | fuel+1,t,d,vs,h=>by
    unfold dz at h⊢;split at h
    · exact h
    · exact h
    · exact h
    · exact h
    · intro a
      obtain⟨b,c,cells,e',e,k2,g,k,l,n⟩:=h a;exact⟨b,c,cells,e',e,k2,he _ _ g,k,l,fun i x j=>dz.mono he fuel _ _ _ (n i x j)⟩
    · intro a
      obtain⟨e,k2,g⟩:=h a;exact⟨e,k2,fun i f x p j=>dz.mono he fuel _ _ _ (g i f x p j)⟩
    · intro a
      obtain⟨e,k2,g⟩:=h a;exact⟨e,k2,fun i x j=>dz.mono he fuel _ _ _ (g i x j)⟩
    · trivial
theorem dp.flatten {S:dh}:∀{vss:List (List V)} {css:List (List Value)},vss.length=css.length->(∀(i:Nat) (vs:List V) (cs:List Value),vss[i]?=some vs->css[i]?=some cs->dp S vs cs)->dp S vss.flatten css.flatten
  | [],[],_,_=>dp.nil
  | [],_::_,h,_=>by simp at h
  | _::_,[],h,_=>by simp at h
  | vs::vss,cs::css,h,c=>by
    rw[List.flatten_cons,List.flatten_cons];exact(c 0 vs cs Z Z).append (dp.flatten (by simpa using h) fun i a b d e=>c (i+1) a b (by simpa using d) (by simpa using e))
theorem nz {α:Type} {m:Nat}:∀{l:List (List α)} {i:Nat} {x:List α},(∀y∈l,y.length=m)->l[i]?=some x->(l.flatten.drop (i*m)).take m=x
  | [],i,x,_,h=>by simp at h
  | y::l,0,x,hm,h=>by
    simp at h;subst h;have hy:=hm y (by simp);simp[<-hy]
  | y::l,i+1,x,hm,h=>by
    have hy:=hm y (by simp);simp only[List.getElem?_cons_succ] at h;rw[List.flatten_cons,show(i+1)*m=y.length+i*m by rw[hy,Nat.succ_mul,Nat.add_comm],List.drop_append,List.drop_eq_nil_of_le B,List.nil_append,Nat.add_sub_cancel_left];exact nz (fun z a=>hm z (by simp[a])) h
theorem pW {α:Type} {m:Nat}:∀{l:List (List α)},(∀y∈l,y.length=m)->l.flatten.length=l.length*m
  | [],_=>by simp
  | y::l,hm=>by
    rw[List.flatten_cons,lA_,hm y (by simp),pW fun z a=>hm z (by simp[a]),List.length_cons,Nat.succ_mul,Nat.add_comm]
theorem nN {α:Type} {P:Program}:∀{fs:List Field} {off fin:Nat} {cs:List α},qw P fs off=some fin->fin<=cs.length->(fs.map fun f=>(cs.drop f.offset).take (P.cellsOf f.type)).flatten=(cs.drop off).take (fin-off)/\off<=fin
  | [],off,fin,cs,h,_=>by simp only[qw,oJ_] at h;subst h;simp
  | f::fs,off,fin,cs,h,a=>by
    simp only[qw] at h;split at h
    · rename_i b
      obtain⟨c,h2⟩:=nN h a;refine⟨?_,by omega⟩;rw[List.map_cons,List.flatten_cons,c,b];rw[show fin-off=P.cellsOf f.type+(fin-(off+P.cellsOf f.type)) by omega,List.take_add,List.drop_drop]
    · cases h
theorem uY {α:Type} {P:Program}:∀{fs:List Field} {vss:List (List α)} {off fin:Nat},qw P fs off=some fin->(∀(i:Nat) (f:Field) (vs:List α),fs[i]?=some f->vss[i]?=some vs->vs.length=P.cellsOf f.type)->vss.length=fs.length->
    ∀{i:Nat} {f:Field} {vs:List α},fs[i]?=some f->vss[i]?=some vs->off<=f.offset/\(vss.flatten.drop (f.offset-off)).take (P.cellsOf f.type)=vs
  | [],vss,off,fin,h,e,j,i,f,vs,c,d=>by simp at c
  | g::fs,[],off,fin,h,e,j,i,f,vs,c,d=>by simp at d
  | g::fs,w::vss,off,fin,h,e,j,i,f,vs,c,d=>by
    simp only[qw] at h;split at h
    · rename_i k
      have hw:=e 0 g w Z Z;cases i with
      | zero=>
        simp at c d;subst c;subst d;refine⟨by omega,?_⟩;rw[k,Nat.sub_self,List.drop_zero,List.flatten_cons,<-hw];simp
      | succ i=>
        simp only[List.getElem?_cons_succ] at c d;obtain⟨h1,l⟩:=uY h (fun i f vs a b=>e (i+1) f vs (by simpa using a) (by simpa using b)) (by simpa using j) c d;refine⟨by omega,?_⟩;rw[List.flatten_cons,show f.offset-off=w.length+(f.offset-(off+P.cellsOf g.type)) by omega,List.drop_append,List.drop_eq_nil_of_le B,List.nil_append,Nat.add_sub_cancel_left];exact l
    · cases h
def ld (U:D):Prop:=∀b o,U.m.get b=some o->o.ro=true
structure CX (S:dh) (U:D) (S':dh) (U':D):Prop where
  le:S.le S'
  get:∀(b:Pos) (o:cG),U.m.get b=some o->U'.m.get b=some o
theorem CX.refl (S:dh) (U:D):CX S U S U:=⟨dh.le_refl S,fun _ _ h=>h⟩
theorem CX.trans {S a c:dh} {U d U2:D} (h:CX S U a d) (h':CX a d c U2):CX S U c U2:=⟨dh.le_trans h.le h'.le,fun b o e=>h'.get b o (h.get b o e)⟩
theorem Inv.L4 {S:dh} {U:D} {w:World} (j:Inv S U w) (z:ld U) {l:Loc} {o:cG} {x:Obj} (v:w.heap[l.dE]?=some x) (A:iF S l o x) (p:o.ro=true):
    Inv (S.with U.next l) (U.alloc o) w/\ld (U.alloc o)/\CX S U (S.with U.next l) (U.alloc o):=by
  have hle:=j.vA l;have s:l.dE<w.heap.size:=(aS_.1 v).1;have i:∀b l',b≠U.next->(S.with U.next l) b=some l'->S b=some l':=fun b l' a h=>by rwa[dh.dT S l a] at h
  have d:∀b,b≠U.next->(U.alloc o).m.get b=U.m.get b:=fun b a=>N.dv _ _ _ _ a
  have g:(U.alloc o).m.get U.next=some o:=N.dA _ _ _
  have f:ld (U.alloc o):=fun b q a=>by
    by_cases e:b=U.next
    · subst e;rw[g] at a;cases a;exact p
    · rw[d b e] at a;exact z b q a
  refine⟨⟨⟨fun b a=>?_,fun b l' a=>?_,fun b o' l' a k=>?_,fun b b' o₁ o₂ l₁ l₂ t n _ _ _ _=>⟨f b o₁ t,f b' o₂ n⟩⟩,j.pI.size,j.pI.same,fun r _ ⟨b,o,l,t,n,_,_⟩=>by rw[f b o t] at n;cases n⟩,f,hle,fun b q a=>?_⟩
  · have aa:U.next.num+1<=b.num:=by simpa [D.alloc,Pos.jt] using a
    have c:b≠U.next:=fun e=>by subst e;omega
    rw[dh.dT S l c,d b c];exact j.fresh b B
  · by_cases c:b=U.next
    · subst c;rw[dh.cZ] at a;cases a;exact s
    · exact j.dE b l'<|i b l' c a
  · by_cases c:b=U.next
    · subst c
      rw[dh.cZ] at k;rw[g] at a;cases a;cases k;exact⟨x,v,A.mono hle⟩
    · rw[d b c] at a
      obtain⟨y,C,u⟩:=j.obj b o' l' a (i b l' c k);exact⟨y,C,u.mono hle⟩
  · have c:b≠U.next:=fun e=>by subst e;rw[(j.fresh _<|nR_ _).2] at a;cases a
    rw[d b c];exact a
section
variable {H_:Type} {enc:TypeId×Value->H_} {P:Program} {w:World}
def HF (enc:TypeId×Value->H_) (P:Program) (w:World) (fuel:Nat) (t:TypeId) (cs:List Value) (d:DataW H_):Prop:=
  ∀(S:dh) (U:D),Inv S U w->ld U->∃(S':dh) (U':D) (vs:List V),Inv S' U' w/\ld U'/\CX S U S' U'/\dz P U' fuel t d vs/\dp S' vs cs
theorem NW {S:dh}:∀(cs:List Value),dp S (cs.map fun _=>V.any) cs
  | []=>dp.nil
  | _::cs=>dp.cons (by simp only[H]) (NW cs)
theorem qQ {fuel:Nat} (ih:∀t cs d p,DataW.trod enc P w 0 (fun _=>true) true fuel t cs=some (d,p)->HF enc P w fuel t cs d):
    ∀(l:List (TypeId×List Value)) (xs:List (DataW H_×List MemPlace)),(l.mapM fun q=>DataW.trod enc P w 0 (fun _=>true) true fuel q.1 q.2)=some xs->∀(S:dh) (U:D),Inv S U w->ld U->
      ∃(S':dh) (U':D) (vss:List (List V)),Inv S' U' w/\ld U'/\CX S U S' U'/\vss.length=l.length/\xs.length=l.length/\∀(i:Nat) (q:TypeId×List Value) (x:DataW H_×List MemPlace) (vs:List V),l[i]?=some q->xs[i]?=some x->vss[i]?=some vs->dz P U' fuel q.1 x.1 vs/\dp S' vs q.2
  | [],xs,h,S,U,b,c=>by
    simp at h;subst h;exact⟨S,U,[],b,c,CX.refl _ _,Z,Z,fun i q x vs a=>by simp at a⟩
  | q::l,xs,h,S,U,b,c=>by
    simp only[List.mapM_cons,Option.bind_eq_bind,Option.bind_eq_some_iff,Option.pure_def,oJ_] at h;obtain⟨⟨d,p⟩,g,r,j,rfl⟩:=h;obtain⟨k,m,vs,n,o,l1,s,u⟩:=ih _ _ _ _ g S U b c;obtain⟨v,y,vss,z,A,l2,n1,C,E⟩:=qQ ih l r j k m n o;refine⟨v,y,vs::vss,z,A,l1.trans l2,by simp[n1],by simp[C],fun i q' x vs' a e f=>?_⟩;cases i with
    | zero=>
      simp at a e f;subst a;subst e;subst f;exact⟨dz.mono l2.get _ _ _ _ s,dp.mono l2.le _ _ u⟩
    | succ i=>exact E i q' x vs' (by simpa using a) (by simpa using e) (by simpa using f)
theorem mL {α β:Type} {f:α->Option β}:∀{l:List α} {ys:List β},l.mapM f=some ys->ys.length=l.length/\∀(i:Nat) (y:β),ys[i]?=some y->∃x,l[i]?=some x/\f x=some y
  | [],ys,h=>by simp at h;subst h;exact⟨Z,fun i y b=>by simp at b⟩
  | x::l,ys,h=>by
    simp only[List.mapM_cons,Option.bind_eq_bind,Option.bind_eq_some_iff,Option.pure_def,oJ_] at h;obtain⟨y,c,r,d,rfl⟩:=h;obtain⟨e,k2⟩:=mL d;refine⟨by simp[e],fun i z a=>?_⟩;cases i with
    | zero=>simp at a;subst a;exact⟨x,Z,c⟩
    | succ i=>simpa using k2 i z (by simpa using a)
theorem tU {α β γ:Type} {f:α->Option β} {g:β->Option γ}:∀{l:List α} {xs:List γ},(l.mapM fun a=>(f a).bind g)=some xs->∃ys,l.mapM f=some ys/\ys.mapM g=some xs
  | [],xs,h=>by simp at h;subst h;exact⟨[],Z,Z⟩
  | a::l,xs,h=>by
    simp only[List.mapM_cons,Option.bind_eq_bind,Option.bind_eq_some_iff,Option.pure_def,oJ_] at h;obtain⟨x,⟨b,c,d⟩,r,e,rfl⟩:=h;obtain⟨ys,i,k2⟩:=tU e;exact⟨b::ys,by simp[List.mapM_cons,c,i],by simp[List.mapM_cons,d,k2]⟩
theorem mapM_map {α β γ:Type} {f:α->β} {g:β->Option γ}:∀(l:List α),(l.map f).mapM g=l.mapM fun a=>g (f a)
  | []=>rfl
  | a::l=>by simp only[List.map_cons,List.mapM_cons,mapM_map l]
theorem chunks_flatten {α:Type} {m:Nat} (L:List α):∀(n:Nat),((List.range n).map fun k=>(L.drop (k*m)).take m).flatten=L.take (n*m)
  | 0=>by simp
  | n+1=>by
    rw[List.range_succ,List.map_append,List.flatten_append,chunks_flatten L n];simp only[List.map_cons,List.map_nil,List.flatten_cons,List.flatten_nil,List.append_nil];rw[Nat.succ_mul,List.take_add]
theorem vR {a:Addr} {n:Nat} {cs:List Value} (h:w.cells? 0 a n=some cs) (hn:1<=n):∃(c:Array Value) (e:TypeId) (fr:Nat×Nat),w.heap[a.block]?=some (Obj.cells c e fr)/\a.spot=none/\a.off+n<=c.size/\cs=(c.toList.drop a.off).take n:=by
  unfold World.cells? at h;rw[if_pos<|Nat.zero_le _] at h;obtain⟨m,k2⟩:=mL h;have m:cs.length=n:=by simpa using m
  have q:∃(c:Array Value) (e:TypeId) (fr:Nat×Nat),w.heap[a.block]?=some (Obj.cells c e fr)/\a.spot=none:=by
    have b:0<cs.length:=by omega
    obtain⟨x,g,f⟩:=k2 0 cs[0] (gC b)
    have:x=0:=by
      rw[List.getElem?_range B] at g;exact(Option.some.inj g).symm
    subst this;have r:a.add 0=a:=by simp[Addr.add]
    rw[r] at f;unfold World.cell? at f;split at f
    · rename_i c e fr j
      split at f
      · cases f
      · rename_i k
        exact⟨c,e,fr,j,by simpa using k⟩
    · cases f
  obtain⟨c,e,fr,j,k⟩:=q
  have d:∀i y,cs[i]?=some y->c[a.off+i]?=some y:=fun i y p=>by
    obtain⟨x,g,f⟩:=k2 i y p;have l:i<n:=by rw[<-m];exact(gA.1 p).1
    have:x=i:=by
      rw[List.getElem?_range l] at g;exact(Option.some.inj g).symm
    subst this;rw[Addr.add_eq a x k] at f;rwa[cell?_of_heap j] at f
  have o:a.off+n<=c.size:=by
    have b:n-1<cs.length:=by omega
    have:=d (n-1) cs[n-1] (gC b);have:=(aS_.1 this).1;omega
  refine⟨c,e,fr,j,k,o,?_⟩;apply List.ext_getElem?;intro i;rw[List.getElem?_take,List.getElem?_drop,aT_ (xs:=c)]
  by_cases l:i<n
  · rw[if_pos l]
    have b:i<cs.length:=by omega
    rw[d i cs[i]<|gC b,gC b]
  · rw[if_neg l,gN_ B]
theorem CG {P:Program}:∀{fs:List Field} {off fin:Nat},qw P fs off=some fin->∀f∈fs,f.offset+P.cellsOf f.type<=fin
  | [],off,fin,h,f,a=>by cases a
  | g::fs,off,fin,h,f,a=>by
    simp only[qw] at h;split at h
    · rename_i ho
      rcases mQ_.1 a with rfl | a
      · have:=(nN (P:=P) (cs:=List.replicate fin ()) h (by simp)).2
        omega
      · exact CG h f a
    · cases h
theorem IN (hw:∃(r:Nat) (c:Array Value) (e:TypeId) (fr:Nat×Nat),w.heap[r]?=some (Obj.cells c e fr)) {fuel:Nat} (ih:∀t cs d p,DataW.trod enc P w 0 (fun _=>true) true fuel t cs=some (d,p)->HF enc P w fuel t cs d) {t e:TypeId} {a:Addr} {len cap:Nat} {d:DataW H_} {p:List MemPlace} (hu:P.underlying t=some (.slice e))
    (h:(if 0<=a.block/\len<=cap/\cap<=maxLen then
        ((List.range len).mapM fun i=>(w.cells? 0 (a.add (i*P.cellsOf e))<|P.cellsOf e).bind (DataW.trod enc P w 0 (fun _=>true) true fuel e)).bind fun elems=>
          (if(fun _=>true) a.block=true then(List.range (cap-len)).mapM fun j=>(w.cells? 0 (a.add ((len+j)*P.cellsOf e))<|P.cellsOf e).bind (DataW.trod enc P w 0 (fun _=>true) true fuel e) else some []).map fun rest=>
            (DataW.slice (elems.map (·.1))<|rest.map (·.1),MemPlace.row a ((elems.length+rest.length)*P.cellsOf e)++(elems++rest).flatMap (·.2))
      else none)=some (d,p)) {S:dh} {U:D} (hi:Inv S U w) (hr:ld U):
    ∃(S':dh) (U':D) (vs:List V),Inv S' U' w/\ld U'/\CX S U S' U'/\dz P U' (fuel+1) t d vs/\dp S' vs [Value.slice (some a) len cap]:=by
  split at h
  · rename_i hc
    obtain⟨_,aI,aY⟩:=hc;obtain⟨elems,hE,h⟩:=Option.bind_eq_some_iff.1 h;obtain⟨rest,hR,h⟩:=oM_.1 h;rw[if_pos Z] at hR;have hd:d= .slice (elems.map (·.1)) (rest.map (·.1)):=by have:=congrArg Prod.fst h;simpa using this.symm
    subst hd;have g:elems.length=len:=by have:=(mL hE).1;simpa using this
    have aa:rest.length=cap-len:=by have:=(mL hR).1;simpa using this
    by_cases A:1<=P.cellsOf e
    · obtain⟨css,ac,hex⟩:=tU hE
      obtain⟨kcs,z⟩:=mL ac;have kcs:css.length=len:=by simpa using kcs
      have K:∀k,(a.add k).block=a.block/\(a.add k).off=a.off+k:=fun k=>by
        unfold Addr.add;split
        · rename_i h0;subst h0;exact⟨Z,Z⟩
        · exact⟨Z,Z⟩
      have o:a.add 0=a:=by simp[Addr.add]
      by_cases h0:len=0/\cap=0
      · obtain⟨rfl,rfl⟩:=h0
        obtain⟨r,c,e',fr,X⟩:=hw;have q:iF S ⟨r,0,c.size⟩ (.row [] e' true) (.cells c e' fr):=⟨c,fr,Z,by simp,by simp,fun i v C=>by simp at C,fun h=>by cases h⟩;obtain⟨i1,r1,l1⟩:=hi.L4 hr X q Z;refine⟨_,_,[.slice U.next 0 0 (.upto<|P.cellsOf e)],i1,r1,l1,?_,dp.cons ?_ dp.nil⟩
        · unfold dz
          rw[hu];dsimp only;intro _;have ag:elems= []:=eN_ g;subst ag;exact⟨U.next,_,[],e',Z,by simp,N.dA _ _ _,.inr Z,by simp,fun i x f=>by simp at f⟩
        · simp only[H]
          refine⟨_,dh.cZ _ _ _,.inr ?_⟩;simp
      · have L:∃(c:Array Value) (e':TypeId) (fr:Nat×Nat),w.heap[a.block]?=some (Obj.cells c e' fr)/\a.spot=none/\a.off<=c.size:=by
          have go:∀cs:List Value,w.cells? 0 a (P.cellsOf e)=some cs->∃(c:Array Value) (e':TypeId) (fr:Nat×Nat),w.heap[a.block]?=some (Obj.cells c e' fr)/\a.spot=none/\a.off<=c.size:=fun cs hk=>by
            obtain⟨c,e',fr,h1,h2,h3,_⟩:=vR hk A;exact⟨c,e',fr,h1,h2,by omega⟩
          by_cases hl:len=0
          · subst hl
            obtain⟨dss,am,_⟩:=tU hR;obtain⟨k1,k2⟩:=mL am;have k1:dss.length=cap-0:=by simpa using k1
            have b:0<dss.length:=by omega
            obtain⟨x,s,f⟩:=k2 0 dss[0] (gC b);have:x=0:=by rw[List.getElem?_range B] at s;exact(Option.some.inj s).symm
            subst this;rw[nA_,Nat.zero_mul,o] at f;exact go _ f
          · have b:0<css.length:=by omega
            obtain⟨x,s,f⟩:=z 0 css[0] (gC b);have:x=0:=by rw[List.getElem?_range B] at s;exact(Option.some.inj s).symm
            subst this;rw[Nat.zero_mul,o] at f;exact go _ f
        obtain⟨c,e',fr,X,u,ar⟩:=L
        have E:∀(i:Nat) (y:List Value),css[i]?=some y->a.off+(i+1)*P.cellsOf e<=c.size/\y=((c.toList.drop a.off).drop (i*P.cellsOf e)).take (P.cellsOf e):=fun i y l=>by
          obtain⟨x,f,ap⟩:=z i y l;have n:i<len:=by rw[<-kcs];exact(gA.1 l).1
          have:x=i:=by rw[List.getElem?_range n] at f;exact(Option.some.inj f).symm
          subst this;obtain⟨c2,e2,a0,h1,h2,h3,h4⟩:=vR ap A;obtain⟨q1,q3⟩:=K (x*P.cellsOf e);rw[q1,X] at h1;cases h1;rw[q3] at h3 h4;exact⟨by rw[Nat.succ_mul];omega,by rw[h4,List.drop_drop]⟩
        have aq:a.off+len*P.cellsOf e<=c.size:=by
          by_cases hl:len=0
          · subst hl;omega
          · have b:len-1<css.length:=by omega
            have:=(E (len-1) css[len-1]<|gC b).1;rwa[show len-1+1=len by omega] at this
        have M:∀(i:Nat) (y:List Value),css[i]?=some y->y.length=P.cellsOf e:=fun i y l=>by
          obtain⟨k1,k2⟩:=E i y l;rw[k2,lT_,lD_,lD_,Array.length_toList];rw[Nat.succ_mul] at k1;omega
        have F:css=(List.range len).map fun k=>((c.toList.drop a.off).drop (k*P.cellsOf e)).take (P.cellsOf e):=by
          apply List.ext_getElem?;intro i;rw[gM_]
          by_cases n:i<len
          · rw[List.getElem?_range n]
            have b:i<css.length:=by omega
            rw[gC b];exact congrArg some (E i css[i]<|gC b).2
          · rw[gN_ B,gN_ (by simp;omega)];rfl
        obtain⟨S1,U1,vss,i1,r1,l1,n1,n2,G⟩:=qQ ih (css.map fun cs=>(e,cs)) elems (by rw[mapM_map];exact hex) S U hi hr;have n1:vss.length=css.length:=by simpa using n1
        have hV:dp S1 vss.flatten css.flatten:=dp.flatten n1 fun i vs cs C Q=>by
          have b:i<elems.length:=by rw[g,<-kcs];exact(gA.1 Q).1
          exact(G i (e,cs) elems[i] vs (by rw[gM_,Q];rfl) (gC b) C).2
        have R:∀vs∈vss,vs.length=P.cellsOf e:=fun vs C=>by
          obtain⟨i,n,rfl⟩:=List.getElem_of_mem C;have b:i<css.length:=by omega
          have m:i<elems.length:=by omega
          have:=(G i (e,css[i]) elems[i] vss[i] (by rw[gM_,gC b];rfl) (gC m)<|gC n).2.length;rw[<-this];exact M i _<|gC b
        have W:vss.flatten.length=len*P.cellsOf e:=by rw[pW R,n1,kcs]
        rw[F,chunks_flatten] at hV
        have q:iF S1 ⟨a.block,a.off,c.size-a.off⟩ (.row vss.flatten e' true) (.cells c e' fr):=by
          refine⟨c,fr,Z,by show c.size=a.off+(c.size-a.off);omega,by rw[W];show _<=c.size-a.off;omega,fun i v C=>?_,fun h=>by cases h⟩;obtain⟨y,l,ax⟩:=hV.get C;rw[List.getElem?_take] at l;split at l
          · rw[List.getElem?_drop,aT_] at l
            exact⟨y,l,ax⟩
          · cases l
        obtain⟨i2,r2,l2⟩:=i1.L4 r1 X q Z;refine⟨_,_,[.slice U1.next 0 len (.known cap)],i2,r2,l1.trans l2,?_,dp.cons ?_ dp.nil⟩
        · unfold dz
          rw[hu];dsimp only;intro _;refine⟨U1.next,_,vss.flatten,e',by rw[lM_,g],by rw[lM_,g];omega,N.dA _ _ _,.inl (by rw[lM_,lM_,g,aa];congr 1;omega),by rw[W,lM_,g],fun i x f=>?_⟩;rw[gM_] at f;cases l:elems[i]? with
          | none=>rw[l] at f;cases f
          | some y=>
            rw[l] at f;cases f;have n:i<len:=by rw[<-g];exact(gA.1 l).1
            have b:i<css.length:=by omega
            have m:i<vss.length:=by omega
            rw[nz R<|gC m];exact dz.mono l2.get _ _ _ _ (G i (e,css[i]) y vss[i] (by rw[gM_,gC b];rfl) l<|gC m).1
        · simp only[H]
          refine⟨_,dh.cZ _ _ _,?_⟩;obtain⟨ab,ao,as⟩:=a;dsimp only at u⊢;subst u;rfl
    · refine⟨S,U,[.any],hi,hr,CX.refl _ _,?_,dp.cons (by simp only[H]) dp.nil⟩
      unfold dz;rw[hu];exact fun h'=>absurd h' A
  · cases h
theorem lay (hw:∃(r:Nat) (c:Array Value) (e:TypeId) (fr:Nat×Nat),w.heap[r]?=some (Obj.cells c e fr)):∀(fuel:Nat) (t:TypeId) (cs:List Value) (d:DataW H_) (p:List MemPlace),DataW.trod enc P w 0 (fun _=>true) true fuel t cs=some (d,p)->HF enc P w fuel t cs d
  | 0,t,cs,d,p,h=>by simp[DataW.trod] at h
  | fuel+1,t,cs,d,p,h=>by
    intro S U Q R;have ih:=lay hw fuel
    have other:(∀vs:List V,dz P U (fuel+1) t d vs)->∃(S':dh) (U':D) (vs:List V),Inv S' U' w/\ld U'/\CX S U S' U'/\dz P U' (fuel+1) t d vs/\dp S' vs cs:=fun G=>
      ⟨S,U,_,Q,R,CX.refl _ _,G _,NW cs⟩
    have one:∀{v:V} {x:Value},cs= [x]->(∀S:dh,H S v x)->dz P U (fuel+1) t d [v]->∃(S':dh) (U':D) (vs:List V),Inv S' U' w/\ld U'/\CX S U S' U'/\dz P U' (fuel+1) t d vs/\dp S' vs cs:=fun {v x} z l G=>by
      subst z;exact⟨S,U,[v],Q,R,CX.refl _ _,G,dp.cons (l S) dp.nil⟩
    cases hu:P.underlying t with
    | none=>exact other fun vs=>by unfold dz;rw[hu];trivial
    | some u=>
      unfold DataW.trod at h;rw[hu] at h;cases u with
      | bool=>
        split at h<;>first | (rename_i he;cases he;done) | skip
        all_goals first
          | (rename_i b he
             cases h;exact one (v:=.bool b) Z (fun S=>by simp only[H]) (by unfold dz;rw[hu]))
          | cases h
      | int k=>
        split at h<;>first | (rename_i he;cases he;done) | skip
        all_goals first
          | (rename_i k1 k2 n he
             cases he;split at h
             · rename_i hk
               obtain⟨aa,ab⟩:=hk;subst aa;cases h;exact one (v:=.int k2 n) Z (fun S=>by simp only[H]) (by unfold dz;rw[hu];exact⟨Z,ab,Z⟩)
             · cases h)
          | cases h
      | string=>
        split at h<;>first | (rename_i he;cases he;done) | skip
        all_goals first
          | (rename_i s he
             split at h
             · rename_i hk
               cases h;exact one (v:=.str<|s.data.toList.map UInt8.toNat) Z (fun S=>by simp only[H];exact⟨s,Z,Z⟩) (by unfold dz;rw[hu];exact⟨by simpa using hk,Z⟩)
             · cases h)
          | cases h
      | struct fs=>
        dsimp only at h;split at h
        · rename_i hlen
          obtain⟨xs,K,A⟩:=oM_.1 h;have G:d= .agg (xs.map (·.1)):=by have:=congrArg Prod.fst A;simpa using this.symm
          subst G
          by_cases E:qw P fs.toList 0=some (P.cellsOf t)
          · obtain⟨C,W,vss,i1,r1,l1,n1,F,hh⟩:=qQ ih (fs.toList.map fun f=>(f.type,(cs.drop f.offset).take<|P.cellsOf f.type)) xs (by rw[mapM_map];exact K) S U Q R
            have hflat:=(nN (cs:=cs) E B).1;have hle:=CG E;have n1:vss.length=fs.toList.length:=by simpa using n1
            have F:xs.length=fs.toList.length:=by simpa using F
            have o:∀(i:Nat) (f:Field) (vs:List V),fs.toList[i]?=some f->vss[i]?=some vs->∃x,xs[i]?=some x/\dz P W fuel f.type x.1 vs/\dp C vs ((cs.drop f.offset).take<|P.cellsOf f.type):=fun i f vs q l=>by
              have g:i<xs.length:=by rw[F];exact(gA.1 q).1
              obtain⟨k1,k2⟩:=hh i (f.type,(cs.drop f.offset).take<|P.cellsOf f.type) xs[i] vs (by rw[gM_,q];rfl) (gC g) l;exact⟨xs[i],gC g,k1,k2⟩
            have L:∀(i:Nat) (f:Field) (vs:List V),fs.toList[i]?=some f->vss[i]?=some vs->vs.length=P.cellsOf f.type:=fun i f vs q l=>by
              obtain⟨x,_,_,k⟩:=o i f vs q l;have h1:=k.length;have h2:=hle f (gB_ q);rw[lT_,lD_] at h1;omega
            have X:dp C vss.flatten cs:=by
              have:=dp.flatten (S:=C) (vss:=vss) (css:=fs.toList.map fun f=>(cs.drop f.offset).take (P.cellsOf f.type)) (by simpa using n1) (fun i vs c l z=>by
                rw[gM_] at z;cases q:fs.toList[i]? with
                | none=>rw[q] at z;cases z
                | some f=>
                  rw[q] at z;cases z;obtain⟨x,_,_,k⟩:=o i f vs q l;exact k)
              rw[hflat,List.drop_zero,Nat.sub_zero,<-hlen,List.take_length] at this;exact this
            refine⟨C,W,vss.flatten,i1,r1,l1,?_,X⟩;unfold dz;rw[hu];dsimp only;intro _;refine⟨by simpa using F,by rw[<-hlen];exact X.length.symm,fun i f x q A=>?_⟩;have M:fs.toList[i]?=some f:=by rw[aT_];exact q
            have g:i<vss.length:=by rw[n1];exact(gA.1 M).1
            obtain⟨_,hp⟩:=uY E L n1 M (gC g);obtain⟨y,hy,k,_⟩:=o i f vss[i] M (gC g);rw[gM_,hy] at A;cases A;rw[Nat.sub_zero] at hp;rw[hp];exact k
          · exact other fun vs=>by unfold dz;rw[hu];exact fun h'=>absurd h' E
        · cases h
      | array m e=>
        dsimp only at h;split at h
        · rename_i hlen
          obtain⟨xs,K,A⟩:=oM_.1 h;have G:d= .agg (xs.map (·.1)):=by have:=congrArg Prod.fst A;simpa using this.symm
          subst G
          by_cases E:P.cellsOf t=m*P.cellsOf e
          · obtain⟨C,W,vss,i1,r1,l1,n1,F,hh⟩:=qQ ih ((List.range m).map fun i=>(e,(cs.drop (i*P.cellsOf e)).take<|P.cellsOf e)) xs (by rw[mapM_map];exact K) S U Q R
            have n1:vss.length=m:=by simpa using n1
            have F:xs.length=m:=by simpa using F
            have o:∀(i:Nat) (vs:List V),vss[i]?=some vs->∃x,xs[i]?=some x/\dz P W fuel e x.1 vs/\dp C vs ((cs.drop (i*P.cellsOf e)).take<|P.cellsOf e):=fun i vs l=>by
              have j:i<m:=by rw[<-n1];exact(gA.1 l).1
              have g:i<xs.length:=by omega
              obtain⟨k1,k2⟩:=hh i (e,(cs.drop (i*P.cellsOf e)).take<|P.cellsOf e) xs[i] vs (by rw[gM_,List.getElem?_range j];rfl) (gC g) l;exact⟨xs[i],gC g,k1,k2⟩
            have L:∀vs∈vss,vs.length=P.cellsOf e:=fun vs l=>by
              obtain⟨i,j,rfl⟩:=List.getElem_of_mem l;obtain⟨x,_,_,k⟩:=o i _ (gC j);have h1:=k.length;rw[lT_,lD_,hlen,E] at h1;have:(i+1)*P.cellsOf e<=m*P.cellsOf e:=nM_ _ B;rw[Nat.succ_mul] at this;omega
            have X:dp C vss.flatten cs:=by
              have:=dp.flatten (S:=C) (vss:=vss) (css:=(List.range m).map fun i=>(cs.drop (i*P.cellsOf e)).take (P.cellsOf e)) (by simpa using n1) (fun i vs c l z=>by
                obtain⟨x,_,_,k⟩:=o i vs l;have j:i<m:=by rw[<-n1];exact(gA.1 l).1
                rw[gM_,List.getElem?_range j] at z;cases z;exact k)
              rw[chunks_flatten,<-E,<-hlen,List.take_length] at this;exact this
            refine⟨C,W,vss.flatten,i1,r1,l1,?_,X⟩;unfold dz;rw[hu];dsimp only;intro _;refine⟨by simpa using F,by rw[<-hlen];exact X.length.symm,fun i x A=>?_⟩
            have j:i<vss.length:=by
              have:=(gA.1 A).1;rw[lM_] at this;omega
            rw[nz L<|gC j];obtain⟨y,hy,k,_⟩:=o i vss[i] (gC j);rw[gM_,hy] at A;cases A;exact k
          · exact other fun vs=>by unfold dz;rw[hu];exact fun h'=>absurd h' E
        · cases h
      | slice e=>
        split at h<;>first | (rename_i he;cases he;done) | skip
        all_goals first
          | (rename_i he
             cases h;exact one (v:=.ax) Z (fun S=>by simp only[H]) (by unfold dz;rw[hu]))
          | (rename_i e' a len cap he
             cases he;exact IN hw ih hu h Q R)
          | cases h
      | _=>exact other fun vs=>by unfold dz;rw[hu];trivial
end
section
variable {P:Program} {G:Cx} {ev:Operand->Option V} {U:D}
def Ext (U U':D):Prop:=U.next<=U'.next/\∀(b:Nat) (o:cG),b<U.next->U.m.get b=some o->U'.m.get b=some o
theorem Ext.refl (U:D):Ext U U:=⟨nR_ _,fun _ _ _ h=>h⟩
theorem Ext.trans {U a U2:D} (h:Ext U a) (h':Ext a U2):Ext U U2:=⟨Nat.le_trans h.1 h'.1,fun b o c d=>h'.2 b o (Nat.lt_of_lt_of_le c h.1) (h.2 b o c d)⟩
theorem yb (U:D) (o:cG):(U.alloc o).m.get U.next=some o:=N.dA _ _ _
theorem nA (U:D) (o:cG) {b:Nat} (h:b<U.next):(U.alloc o).m.get b=U.m.get b:=N.dv _ _ _ _ (Nat.ne_of_lt h)
theorem zS (U:D) (b:Nat) (o:cG):(U.setObj b o).m.get b=some o:=N.dA _ _ _
theorem nC (U:D) {b b':Nat} (o:cG) (h:b'≠b):(U.setObj b o).m.get b'=U.m.get b':=N.dv _ _ _ _ h
theorem Ext.alloc (U:D) (o:cG):Ext U (U.alloc o):=⟨Nat.le_succ _,fun b o' a h=>by rw[nA U o a];exact h⟩
theorem Ext.set {U a:D} (h:Ext U a) {b:Nat} (e:U.next<=b) (o:cG):Ext U (a.setObj b o):=⟨h.1,fun c o' d f=>by rw[nC a o<|Nat.ne_of_lt<|Nat.lt_of_lt_of_le d e];exact h.2 c o' d f⟩
theorem an {x:Operand} {v:V} (h:ev x=some v):dW P G ev U (.move x)= .val v U:=by
 show(match ev x with | some v=>HR.val v U | none=>_)=_;rw[h]
theorem aj {x:Operand} {v:V} (h:ev x=some v):dW P G ev U (.assign x)= .val v U:=by
 show(match ev x with | some v=>HR.val v U | none=>_)=_;rw[h]
theorem bn {op:Op} {v:V} (a:kindOf P op= .pure) (h:di P ev op=some v):dW P G ev U op= .val v U:=by
 unfold dW;rw[a];dsimp only;rw[h]
theorem AN {op:Op} {v:V} (a:kindOf P op= .read) (h:gW P ev U op=some v):dW P G ev U op= .val v U:=by
 unfold dW;rw[a];dsimp only;rw[h]
theorem tz {op:Op} {ob:cG} {mk:Mk} (a:kindOf P op= .alloc) (h:gi P ev op=some (ob,mk)):dW P G ev U op= .val (mk.of U.next) (U.alloc ob):=by
 unfold dW;rw[a];dsimp only;rw[h]
theorem kZ {op:Op} {r:HR} (a:kindOf P op= .jW) (h:gz P G.ov ev U op=r):dW P G ev U op=r:=by
 unfold dW;rw[a];exact h
theorem ay {t:TypeId} {x:Operand} {b:Pos} {off:Nat} {cells:List V} {e:Nat} {ro:Bool} {v:V} (a:ev x=some (.ptr b off)) (c:U.m.get b=some (.row cells e ro)) (d:dU P t=some none) (f:nth cells off=some v):dW P G ev U (.load t x)= .val v U:=by
 refine AN Z ?_;simp only[gW,a,c,d,f]
theorem aP {t:TypeId} {x:Operand} {b:Pos} {off n:Nat} {cells:List V} {e:Nat} {ro:Bool} {vs:List V} (c:ev x=some (.ptr b off)) (d:U.m.get b=some (.row cells e ro)) (f:dU P t=some (some n)) (g:off+n<=cells.length) (h:(cells.drop off).take n=vs):dW P G ev U (.load t x)= .val (.agg vs) U:=by
 refine AN Z ?_;have a:Nat.ble (off+n) (cX cells)=true:=by rw[nE_,bK];exact g
 simp only[gW,c,d,f,a,cond_true,du,dO,h]
theorem av {s:TypeId} {x:Operand} {i:Nat} {b:Pos} {off k:Nat} (g:ev x=some (.ptr b off)) (a:nV P s i=some k):dW P G ev U (.fieldAddr s x i)= .val (.ptr b (off+k)) U:=by
 refine bn Z ?_;unfold nV at a;simp only[di,g];cases c:structOf P s with
 | none=>rw[c] at a;cases a
 | some fs=>
  rw[c] at a;dsimp only at a⊢;cases d:fs[i]? with
  | none=>rw[d] at a;cases a
  | some f=>
   rw[d] at a;dsimp only at a⊢;rw[p4] at a;cases e:P.info? f.type with
   | none=>rw[e] at a;cases a
   | some j=>
    rw[e] at a;dsimp only at a⊢;rw[bA] at a⊢;split at a
    ·cases a
    rename_i h;cases a;rw[if_neg h]
theorem LR {t e:TypeId} {j:TypeInfo} {x i:Operand} {b:Pos} {off len n:Nat} {c:pH} {k:IntKind} (a:P.underlying t=some (.slice e)) (d:P.info? e=some j) (f:ev x=some (.slice b off len c)) (g:ev i=some (.int k (.ofNat n))) (h:n<len):dW P G ev U (.indexAddr t x i)= .val (.ptr b (off+n*j.size)) U:=by
 refine bn Z ?_;have:Nat.ble (Nat.succ n) len=true:=by rw[nE_];exact h
 simp only[di,a,f,g,d,this,cond_true]
theorem rQ {c:Call} {t e:TypeId} {x:Operand} {b:Pos} {off len:Nat} {cp:pH} (a:c.callee= .builtin .len) (d:c.argTypes[0]?=some t) (f:c.args.toList= [x]) (hu:P.underlying t=some (.slice e)) (g:ev x=some (.slice b off len cp)):dW P G ev U (.call c)= .val (.int .i64 (.ofNat len)) U:=by
 refine bn (by simp[kindOf,a,isMap,d,hu]) ?_;simp only[di,a,d,f,g,wR,hu,Option.map_some]
theorem az {o:BinOp} {t r:TypeId} {x y:Operand} {a b v:V} (c:ev x=some a) (d:ev y=some b) (h:vh P (yT x || yT y) o t a b=some v):dW P G ev U (.binOp o t x y r)= .val v U:=by
 refine bn Z ?_;simp only[di,c,d,h]
theorem aD {c a b:Operand} {q:Bool} {v:V} (d:ev c=some (.bool q)) (h:(if q then ev a else ev b)=some v):dW P G ev U (.pick c a b)= .val v U:=by
 refine bn Z ?_;cases q with
 | true=>simp only[di,d];exact h
 | false=>simp only[di,d];exact h
theorem cV {t:TypeId} {x:Operand} {q:Bool} (a:ev x=some (.bool q)):dW P G ev U (.unOp .not t x)= .val (.bool (!q)) U:=by
 refine bn Z ?_;simp only[di,a];cases q<;>rfl
theorem cz {e:TypeId} {x:Operand} {v:V} {cs:List V} (a:ev x=some v) (b:cS v=some cs):dW P G ev U (.box e x)= .val (.ptr U.next 0) (U.alloc (.row cs e false)):=by
 exact tz (op:=.box e x) (mk:=.ptr) (ob:=.row cs e false) Z (by simp only[gi,a,Option.bind_some,b])
theorem cP {e:TypeId} {cs:List V} (a:(fB P e).bind cS=some cs) (b:ta P e=false):dW P G ev U (.alloc e)= .val (.ptr U.next 0) (U.alloc (.row cs e false)):=by
 exact tz (op:=.alloc e) (mk:=.ptr) (ob:=.row cs e false) Z (by simp only[gi,a,b,cond_false])
theorem LS {t:TypeId} {x y:Operand} {b:Pos} {off:Nat} {v:V} {cs cells:List V} {e:Nat} {j:TypeInfo} (c:ev x=some (.ptr b off)) (d:ev y=some v) (f:cS v=some cs) (g:U.m.get b=some (.row cells e false)) (h:P.info? t=some j) (i:cs.length=j.size) (hle:off+j.size<=cells.length) (a:cD cs=true):
  dW P G ev U (.store t x y)= .skip (U.setObj b (.row (dG cs cells off) e false)):=by
 refine kZ Z ?_
 have k:(Nat.beq (cX cs) j.size && Nat.ble (off+j.size) (cX cells) && cD cs)=true:=by
  rw[bA_,bA_,Nat.beq_eq,nE_,bK,bK];exact⟨⟨i,hle⟩,a⟩
 simp only[gz,c,d,xI,f,g,h,k,cond_true]
theorem aR {c:Call} {f:Operand} {g:Nat} {fi ca args:List V} (a:c.callee= .value f) (b:ev f=some (.func g fi ca)) (d:tN ev c.args.toList=some args) (e:zV P g=true):dW P G ev U (.call c)= .enter g (fi++(args++ca)) U:=by
 refine kZ (by simp[kindOf,a]) ?_;simp only[gz,a,b,d,yA,e,cond_true,dV]
end
end Go.Ev
namespace Go.Ev
theorem FX {α:Type} (n:Nat) (t:kD α) (a:n<16):(xM n).run t ((kh n).run t)=t:=by
 rcases GX a with rfl | rfl | rfl | rfl | rfl | rfl | rfl | rfl | rfl | rfl | rfl | rfl | rfl | rfl | rfl | rfl<;>rfl
theorem Jl {α:Type} (t:jN α) (k:Nat) (hk:k<256):pF t k (jV t k)=t:=by
 unfold pF jV;rw[FX (Nat.mod k 16) _<|Nat.mod_lt _ (by decide)];exact FX (Nat.div k 16) _ (by show k/16<16;omega)
theorem N.Lo {α:Type} {t:N α} {k:Nat} {o:Option α} (h:t.get k=o) (a:k<256):t.put o k=t:=by
 subst h;rw[N.pY _ a];cases t with
 | mk s m l=>rw[N.s7 _ _ _ _ a];exact congrArg (fun s=>N.mk s m l)<|Jl s k a
def Jn:N V->List (Nat×V)->N V
 | t,[]=>t
 | t,(k,v)::l=>Jn (t.put (some v) k) l
def Ml (t:N V):List (Nat×V)->Prop
 | []=>True
 | (k,v)::l=>t.get k=some v/\Ml t l
theorem Ml.Jn {t:N V}:∀{l:List (Nat×V)},Ml t l->(l.all fun x=>Nat.blt x.1 256)=true->Jn t l=t
 | [],_,_=>rfl
 | (k,v)::l,h,a=>by
  rw[List.all_cons,bA_] at a;have b:k<256:=by have:=a.1;exact Nat.le_of_ble_eq_true this
  show Go.Ev.Jn (t.put (some v) k) l=t;rw[N.Lo h.1 b];exact h.2.Jn a.2
section
variable [Env] {P:Program} {G:Cx} {ev:Operand->Option V} {U:D}
theorem aT {id:Nat} {Q:Ex->N V->D->Prop} {t:N V} (h:Q .normal t U):iL id Q (.exit id) t U:=by
 show(if id=id then _ else _);rw[if_pos Z];exact h
theorem sD {id j:Nat} {Q:Ex->N V->D->Prop} {t:N V} (a:Nat.beq j id=false) (h:Q (.exit j) t U):iL id Q (.exit j) t U:=by
 show(if j=id then _ else _);rw[if_neg (fun e=>by rw[e,Nat.beq_refl] at a;cases a)];exact h
theorem aZ {n i:Nat} {b:Code} {Q:Ex->N V->D->Prop} {t:N V} (h:Q (.exit i) t U):cN P G n b Q (.exit i) t U:=h
theorem aw {n:Nat} {b:Code} {Q:Ex->N V->D->Prop} {t:N V} (h:Q .ret t U):cN P G n b Q .ret t U:=h
theorem eo {t e:TypeId} {m:Nat} {x i:Operand} {b:Pos} {off len n:Nat} {c:pH} {k:IntKind} (f:P.underlying t=some (.slice e)) (a:(P.info? e).map (·.size)=some m) (g:ev x=some (.slice b off len c)) (h:ev i=some (.int k (.ofNat n))) (l:n<len):dW P G ev U (.indexAddr t x i)= .val (.ptr b (off+n*m)) U:=by
 cases d:P.info? e with
 | none=>rw[d] at a;cases a
 | some j=>
  rw[d] at a;cases a;exact LR f d g h l
theorem gR {t:TypeId} {m:Nat} {x y:Operand} {b:Pos} {off:Nat} {v:V} {cs cells:List V} {e:Nat} (f:ev x=some (.ptr b off)) (g:ev y=some v) (h:cS v=some cs) (i:U.m.get b=some (.row cells e false)) (c:(P.info? t).map (·.size)=some m) (k:cs.length=m) (hle:off+m<=cells.length) (a:cD cs=true):
  dW P G ev U (.store t x y)= .skip (U.setObj b (.row (dG cs cells off) e false)):=by
 cases d:P.info? t with
 | none=>rw[d] at c;cases c
 | some j=>
  rw[d] at c;cases c;exact LS f g h i d k hle a
end
end Go.Ev
namespace Go.Ev
variable [Env]
abbrev KP:=Nat->cG->Prop
def KP.le (K K':KP):Prop:=∀b o,K b o->K' b o
theorem KP.le_refl (K:KP):KP.le K K:=fun _ _ h=>h
theorem KP.le_trans {K K' K'':KP} (h:KP.le K K') (h':KP.le K' K''):KP.le K K'':=fun b o a=>h' b o (h b o a)
def KP.add (K:KP) (b:Nat) (o:cG):KP:=fun b' o'=>K b' o'∨(b'=b/\o'=o)
theorem KP.se (K:KP) (b:Nat) (o:cG):KP.le K (K.add b o):=fun _ _ h=>.inl h
abbrev Own:=List (Nat×cG)
structure J (U:D) (K:KP) (L:Own):Prop where
 kept:∀b o,K b o->b<U.next/\U.m.get b=some o/\∀e∈L,e.1≠b
 own:∀e∈L,e.1<U.next/\U.m.get e.1=some e.2
 ne:L.Pairwise fun a b=>a.1≠b.1
section
variable {U:D} {K:KP} {L:Own}
theorem J.fq (h:J U K L) {b:Nat} {o:cG} (a:K b o):U.m.get b=some o:=(h.kept b o a).2.1
theorem J.get (h:J U K L) (k:Nat) {b:Nat} {o:cG} (a:L[k]?=some (b,o)):U.m.get b=some o:=(h.own _<|gB_ a).2
theorem J.alloc (h:J U K L) (o:cG):J (U.alloc o) K ((U.next,o)::L) where
 kept b o' hb:=by
  obtain⟨a,c,d⟩:=h.kept b o' hb;refine⟨Nat.lt_succ_of_lt a,by rw[nA U o a];exact c,fun e he=>?_⟩;rcases mQ_.1 he with rfl | he
  ·exact fun e=>by rw[<-e] at a;exact Nat.lt_irrefl _ a
  exact d e he
 own e he:=by
  rcases mQ_.1 he with rfl | he
  ·exact⟨Nat.lt_succ_self _,yb _ _⟩
  obtain⟨a,c⟩:=h.own e he;exact⟨Nat.lt_succ_of_lt a,by rw[nA U o a];exact c⟩
 ne:=List.pairwise_cons.2 ⟨fun e he=>fun f=>by have:=(h.own e he).1;rw[<-f] at this;exact Nat.lt_irrefl _ this,h.ne⟩
theorem J.pop {e:Nat×cG} (h:J U K (e::L)):J U K L where
 kept b o hb:=let ⟨a,c,d⟩:=h.kept b o hb;⟨a,c,fun e he=>d e (mC_ _ he)⟩
 own e he:=h.own e (mC_ _ he)
 ne:=(List.pairwise_cons.1 h.ne).2
theorem J.aQ:∀{M:Own},J U K (M++L)->J U K L
 | [],h=>h
 | _::_,h=>J.aQ h.pop
theorem J.perm {L':Own} (h:J U K L) (c:L.Perm L'):J U K L' where
 kept b o hb:=let ⟨f,g,i⟩:=h.kept b o hb;⟨f,g,fun e he=>i e (c.mem_iff.2 he)⟩
 own e he:=h.own e (c.mem_iff.2 he)
 ne:=(c.pairwise_iff (fun {a b} d=>fun e=>d e.symm)).1 h.ne
theorem J.iu {b:Nat} {o:cG} (h:J U K ((b,o)::L)):J U (K.add b o) L where
 kept b' o' hb:=by
  rcases hb with hb | ⟨rfl,rfl⟩
  ·exact h.pop.kept b' o' hb
  exact⟨(h.own _<|mS_ ..).1,(h.own _<|mS_ ..).2,fun e he a=>(List.pairwise_cons.1 h.ne).1 e he a.symm⟩
 own:=h.pop.own
 ne:=h.pop.ne
theorem J.pf {b:Nat} {o:cG} (h:J U K ((b,o)::L)) (o':cG):J (U.setObj b o') K ((b,o')::L) where
 kept b' o'' hb:=by
  obtain⟨a,c,d⟩:=h.kept b' o'' hb;refine⟨a,by rw[nC U o' (fun e=>d _ (mS_ ..) e.symm)];exact c,fun e he=>?_⟩;rcases mQ_.1 he with rfl | he
  ·exact d (b,o)<|mS_ ..
  exact d e<|mC_ _ he
 own e he:=by
  rcases mQ_.1 he with rfl | he
  ·exact⟨(h.own _<|mS_ ..).1,zS _ _ _⟩
  obtain⟨a,c⟩:=h.own e (mC_ _ he);exact⟨a,by rw[nC U o' (fun f=>(List.pairwise_cons.1 h.ne).1 e he f.symm)];exact c⟩
 ne:=List.pairwise_cons.2 ⟨(List.pairwise_cons.1 h.ne).1,(List.pairwise_cons.1 h.ne).2⟩
theorem J.Lr {b:Nat} {o:cG} {x:Nat×cG} (h:J U K (x::(b,o)::L)) (o':cG):J (U.setObj b o') K (x::(b,o')::L):=
 ((h.perm<|List.Perm.swap ..).pf o').perm (List.Perm.swap ..)
theorem Jk {α:Type} (x y z:α) (L:List α):(x::y::z::L).Perm (z::x::y::L):=
 (List.Perm.cons x<|List.Perm.swap z y L).trans (List.Perm.swap z x (y::L))
theorem J.PI {b:Nat} {o:cG} {x y:Nat×cG} (h:J U K (x::y::(b,o)::L)) (o':cG):J (U.setObj b o') K (x::y::(b,o')::L):=
 ((h.perm<|Jk ..).pf o').perm (Jk ..).symm
theorem L5 {α:Type} (x y z u:α) (L:List α):(x::y::z::u::L).Perm (u::x::y::z::L):=
 (List.Perm.cons x<|Jk y z u L).trans (List.Perm.swap u x (y::z::L))
theorem J.PJ {b:Nat} {o:cG} {x y z:Nat×cG} (h:J U K (x::y::z::(b,o)::L)) (o':cG):J (U.setObj b o') K (x::y::z::(b,o')::L):=
 ((h.perm<|L5 ..).pf o').perm (L5 ..).symm
theorem J.xq {b:Nat} {o:cG} (h:J U K ((b,o)::L)) (o':cG):J ((U.drop b).alloc o') K ((U.next,o')::L):=by
 refine J.alloc (U:=U.drop b) ⟨fun b' o'' f=>?_,fun e he=>?_,h.pop.ne⟩ o'
 ·obtain⟨a,c,d⟩:=h.kept b' o'' f;exact⟨a,by rw[show(U.drop b).m.get b'=U.m.get b' from N.dv _ _ _ _ (fun e=>d _ (mS_ ..) e.symm)];exact c,fun e he=>d e (mC_ _ he)⟩
 obtain⟨a,c⟩:=h.own e (mC_ _ he);exact⟨a,by rw[show(U.drop b).m.get e.1=U.m.get e.1 from N.dv _ _ _ _ (fun g=>(List.pairwise_cons.1 h.ne).1 e he g.symm)];exact c⟩
theorem J.named (h:J U K L):∃L',J U K L'/\L=L':=⟨L,h,Z⟩
theorem J.ext {U':D} (h:J U K L) (he:Ext U U'):J U' K L where
 kept b o hb:=let ⟨a,c,d⟩:=h.kept b o hb;⟨Nat.lt_of_lt_of_le a he.1,he.2 b o a c,d⟩
 own e hm:=let ⟨a,c⟩:=h.own e hm;⟨Nat.lt_of_lt_of_le a he.1,he.2 _ _ a c⟩
 ne:=h.ne
end
def ib (K:KP) (p:V) (vs:List V):Prop:=
 ∃(b off:Nat) (cells:List V) (e:Nat) (ro:Bool),p= .ptr b off/\K b (.row cells e ro)/\off+vs.length<=cells.length/\(cells.drop off).take vs.length=vs
theorem ib.mono {K K':KP} (a:KP.le K K') {p:V} {vs:List V} (h:ib K p vs):ib K' p vs:=
 let ⟨b,off,cells,e,ro,c,d,f,g⟩:=h;⟨b,off,cells,e,ro,c,a _ _ d,f,g⟩
def LU (m len:Nat) (c:pH):Prop:=c= .upto m∨∃n,c= .known n/\len<=n
def bR {α:Type} (K:KP) (m:Nat) (R:α->List V->Prop) (l:List α) (v:V):Prop:=
 (l= []/\v= .ax)∨∃(b off:Nat) (c:pH) (cells:List V) (e:Nat) (ro:Bool),v= .slice b off l.length c/\LU m l.length c/\K b (.row cells e ro)/\off+l.length*m<=cells.length/\l.length<=9223372036854775807/\
  ∀(i:Nat) (x:α),l[i]?=some x->R x ((cells.drop (off+i*m)).take m)
theorem bR.mono {α:Type} {K K':KP} {m:Nat} {R R':α->List V->Prop} {l:List α} {v:V} (h:bR K m R l v) (d:KP.le K K') (f:∀x vs,R x vs->R' x vs):bR K' m R' l v:=by
 rcases h with h | ⟨b,off,c,cells,e,ro,g,j,k,p,a⟩
 ·exact .inl h
 exact .inr ⟨b,off,c,cells,e,ro,g,j,d _ _ k,p,a.1,fun i x q=>f x _ (a.2 i x q)⟩
theorem bR.bG {α:Type} {K:KP} {m:Nat} {R:α->List V->Prop} {l:List α} {v:V} (h:bR K m R l v):l.length<=9223372036854775807:=by
 rcases h with ⟨rfl,_⟩ | ⟨b,off,c,cells,e,ro,h1,h2,h3,h4,a,_⟩
 ·exact Nat.zero_le _
 exact a
theorem bR.leaf {α:Type} {K:KP} {m:Nat} {R:α->List V->Prop} {l:List α} {v:V} (h:bR K m R l v):cS v=some [v]/\iB v=true:=by
 rcases h with ⟨_,rfl⟩ | ⟨b,off,c,cells,e,ro,rfl,_⟩<;>exact⟨rfl,rfl⟩
theorem bR.wR {α:Type} {K:KP} {m:Nat} {R:α->List V->Prop} {l:List α} {v:V} (h:bR K m R l v) {P:Program} {t e:TypeId} (hu:P.underlying t=some (.slice e)):Go.Ev.wR P t v=some l.length:=by
 rcases h with ⟨rfl,rfl⟩ | ⟨b,off,c,cells,e,ro,rfl,_⟩
 ·simp only[Go.Ev.wR,hu];rfl
 simp only[Go.Ev.wR,hu]
theorem bR.at {α:Type} {K:KP} {m:Nat} {R:α->List V->Prop} {l:List α} {v:V} (h:bR K m R l v) {i:Nat} {x:α} (f:l[i]?=some x):
  ∃(b off:Nat) (c:pH) (vs:List V),v= .slice b off l.length c/\i<l.length/\ib K (.ptr b (off+i*m)) vs/\vs.length=m/\R x vs:=by
 have a:i<l.length:=(gA.1 f).1;rcases h with ⟨rfl,_⟩ | ⟨b,off,c,cells,e,ro,rfl,h2,g,h4,j⟩
 ·exact absurd a<|nZ_ _
 have hle:(i+1)*m<=l.length*m:=nM_ _ a;rw[Nat.succ_mul] at hle;have d:((cells.drop (off+i*m)).take m).length=m:=by rw[lT_,lD_];omega
 refine⟨b,off,c,_,Z,a,⟨b,off+i*m,cells,e,ro,Z,g,by rw[d];omega,by rw[d]⟩,d,j.2 i x f⟩
section
variable {P:Program} {G:Cx} {ev:Operand->Option V} {U:D} {K:KP} {L:Own}
theorem aW {α:Type} {m:Nat} {R:α->List V->Prop} {l:List α} {c:Call} {t e:TypeId} {x:Operand} {v:V} (d:bR K m R l v) (a:c.callee= .builtin .len) (b:c.argTypes[0]?=some t) (f:c.args.toList= [x]) (hu:P.underlying t=some (.slice e)) (g:ev x=some v):dW P G ev U (.call c)= .val (.int .i64 (.ofNat l.length)) U:=by
 refine bn (by simp[kindOf,a,isMap,b,hu]) ?_;simp only[di,a,b,f,g,d.wR hu,Option.map_some]
theorem ij {c:Call} {t:TypeId} {x:Operand} {s:List Nat} (a:c.callee= .builtin .len) (b:c.argTypes[0]?=some t) (d:c.args.toList= [x]) (hu:P.underlying t=some .string) (e:ev x=some (.str s)):dW P G ev U (.call c)= .val (.int .i64 (.ofNat<|cX s)) U:=by
 refine bn (by simp[kindOf,a,isMap,b,hu]) ?_;simp only[di,a,b,d,e,wR,hu,Option.map_some]
theorem aU {t:TypeId} {x:Operand} {p v:V} {vs:List V} (c:J U K L) (d:ib K p vs) (f:ev x=some p) (g:dU P t=some none) (a:vs[0]?=some v):dW P G ev U (.load t x)= .val v U:=by
 obtain⟨b,off,cells,e,ro,rfl,h,h3,i⟩:=d;refine ay f (c.fq h) g ?_;rw[eF];rw[<-i,List.getElem?_take] at a;split at a
 ·simpa using a
 cases a
theorem J6 {t:TypeId} {x:Operand} {p:V} {vs:List V} {n:Nat} (a:J U K L) (c:ib K p vs) (d:ev x=some p) (f:dU P t=some (some n)) (g:n<=vs.length):dW P G ev U (.load t x)= .val (.agg<|vs.take n) U:=by
 obtain⟨b,off,cells,e,ro,rfl,h,h3,i⟩:=c;refine aP d (a.fq h) f B ?_;rw[<-i,List.take_take,Nat.min_eq_left g]
end
section
variable {P:Program} {G:Cx} {n:Nat} {t:N V} {U:D} {K:KP} {L:Own} {Q:Ex->N V->D->Prop} {ops:Array Oper} {o:Oper} {l:List Oper}
theorem aM {c:Bool} {t':Bool->N V} (hw:bM ops t o=some true) (a:dW P G (bE G t) U o.op= .val (.bool c) U) (d:∀b,dI t n o.dst (.bool b)=some (t' b))
  (e:c=true->bP P G ops n l (t' true) U Q) (f:c=false->bP P G ops n l (t' false) U Q):bP P G ops n (o::l) t U Q:=by
 refine O hw a (d c) ?_;cases c with
 | true=>exact e Z
 | false=>exact f Z
theorem bH (a:J U K L) {ob:cG} {t':Nat->N V} (hw:bM ops t o=some true) (c:dW P G (bE G t) U o.op= .val (.ptr U.next 0) (U.alloc ob)) (d:∀b,dI t n o.dst (.ptr b 0)=some (t' b))
  (h:∀(U':D) (b:Nat),J U' K ((b,ob)::L)->bP P G ops n l (t' b) U' Q):bP P G ops n (o::l) t U Q:=
 O hw c (d _) (h _ _<|a.alloc ob)
theorem gT (a:J U K L) {ob:cG} {k c:Nat} {t':Nat->N V} (hw:bM ops t o=some true) (d:dW P G (bE G t) U o.op= .val (.slice U.next 0 k (.known c)) (U.alloc ob)) (e:∀b,dI t n o.dst (.slice b 0 k (.known c))=some (t' b))
  (h:∀(U':D) (b:Nat),J U' K ((b,ob)::L)->bP P G ops n l (t' b) U' Q):bP P G ops n (o::l) t U Q:=
 O hw d (e _) (h _ _<|a.alloc ob)
theorem bO {b:Nat} {ob ob':cG} {t':N V} (a:J U K ((b,ob)::L)) (hw:bM ops t o=some true) (c:dW P G (bE G t) U o.op= .skip (U.setObj b ob')) (d:dI t n o.dst unit=some t')
  (h:∀U',J U' K ((b,ob')::L)->bP P G ops n l t' U' Q):bP P G ops n (o::l) t U Q:=iO hw c d (h _<|a.pf ob')
theorem eh {b:Nat} {ob ob':cG} {x:Nat×cG} {t':N V} (a:J U K (x::(b,ob)::L)) (hw:bM ops t o=some true) (c:dW P G (bE G t) U o.op= .skip (U.setObj b ob')) (d:dI t n o.dst unit=some t')
  (h:∀U',J U' K (x::(b,ob')::L)->bP P G ops n l t' U' Q):bP P G ops n (o::l) t U Q:=iO hw c d (h _<|a.Lr ob')
theorem z7 {b:Nat} {ob ob':cG} {x y:Nat×cG} {t':N V} (a:J U K (x::y::(b,ob)::L)) (hw:bM ops t o=some true) (c:dW P G (bE G t) U o.op= .skip (U.setObj b ob')) (d:dI t n o.dst unit=some t')
  (h:∀U',J U' K (x::y::(b,ob')::L)->bP P G ops n l t' U' Q):bP P G ops n (o::l) t U Q:=iO hw c d (h _<|a.PI ob')
theorem jz {b:Nat} {ob ob':cG} {x y z:Nat×cG} {t':N V} (a:J U K (x::y::z::(b,ob)::L)) (hw:bM ops t o=some true) (c:dW P G (bE G t) U o.op= .skip (U.setObj b ob')) (d:dI t n o.dst unit=some t')
  (h:∀U',J U' K (x::y::z::(b,ob')::L)->bP P G ops n l t' U' Q):bP P G ops n (o::l) t U Q:=iO hw c d (h _<|a.PJ ob')
theorem bZ {α:Type} {m:Nat} {R:α->List V->Prop} {la:List α} {v:V} {i:Nat} {x:α} {ty e:TypeId} {xo io:Operand} {k:IntKind} {t':V->N V} (f:bR K m R la v) (g:la[i]?=some x) (hw:bM ops t o=some true) (j:o.op= .indexAddr ty xo io)
  (q:P.underlying ty=some (.slice e)) (r:(P.info? e).map (·.size)=some m) (s:bE G t xo=some v) (a:bE G t io=some (.int k (.ofNat i))) (u:∀p,dI t n o.dst p=some (t' p))
  (h:∀p vs,ib K p vs->vs.length=m->R x vs->bP P G ops n l (t' p) U Q):bP P G ops n (o::l) t U Q:=by
 obtain⟨b,off,c,vs,rfl,d,w,y,z⟩:=f.at g;refine O hw ?_ (u _)<|h _ vs w y z;rw[j];exact eo q r s a d
theorem cq {p:V} {vs:List V} {s:TypeId} {xo:Operand} {i k:Nat} {t':V->N V} (a:ib K p vs) (hw:bM ops t o=some true) (c:o.op= .fieldAddr s xo i) (d:bE G t xo=some p) (f:nV P s i=some k) (hl:k<=vs.length) (g:∀p,dI t n o.dst p=some (t' p))
  (h:∀p',ib K p' (vs.drop k)->bP P G ops n l (t' p') U Q):bP P G ops n (o::l) t U Q:=by
 obtain⟨b,off,cells,e,ro,rfl,j,h3,m⟩:=a;refine O hw ?_ (g _)<|h _ ⟨b,off+k,cells,e,ro,Z,j,by rw[lD_];omega,?_⟩
 ·rw[c];exact av d f
 rw[lD_]
 conv=>rhs;rw[<-m]
 rw[List.drop_take,List.drop_drop]
theorem cH {f:Nat} {args:List V} {t':V->N V} {R:V->D->Prop} (hw:bM ops t o=some true) (a:dW P G (bE G t) U o.op= .enter f args U) (b:∀v,dI t n o.dst v=some (t' v))
  (c:bk P G f args U R) (h:∀v U',R v U'->bP P G ops n l (t' v) U' Q):bP P G ops n (o::l) t U Q:=
 DD hw a (c.mono fun v U' d=>⟨_,b v,h v U' d⟩)
theorem aE {x:Operand} {a b:Code} {c:Bool} (d:bE G t x=some (.bool c)) (e:c=true->Ev P G a n t U Q) (f:c=false->Ev P G b n t U Q):Ev P G (.cond x a b) n t U Q:=by
 refine zP d ?_;cases c with
 | true=>exact e Z
 | false=>exact f Z
end
theorem aC:cD []=true:=rfl
theorem ah {v:V} {vs:List V} (h:iB v=true) (a:cD vs=true):cD (v::vs)=true:=by
 show(bif iB v then cD vs else false)=true;rw[h,a];rfl
section
variable {P:Program} {G:Cx} {ev:Operand->Option V} {U:D} {K:KP} {L:Own}
theorem aL {t:TypeId} {m:Nat} {x y:Operand} {b:Pos} {off:Nat} {v:V} {cs cells cells':List V} {e:Nat} (c:ev x=some (.ptr b off)) (d:ev y=some v) (f:cS v=some cs) (g:U.m.get b=some (.row cells e false)) (h:(P.info? t).map (·.size)=some m) (i:cs.length=m) (hle:off+m<=cells.length) (a:cD cs=true) (j:dG cs cells off=cells'):
  dW P G ev U (.store t x y)= .skip (U.setObj b (.row cells' e false)):=by
 subst j;exact gR c d f g h i hle a
theorem bQ {t:TypeId} {x:Operand} {p:V} {vs:List V} {n:Nat} (b:J U K L) (c:ib K p vs) (d:ev x=some p) (e:dU P t=some (some n)) (a:vs.length=n):dW P G ev U (.load t x)= .val (.agg vs) U:=by
 have:=J6 (G:=G) b c d e (Nat.le_of_eq a.symm);rwa[<-a,List.take_length] at this
def placesOf (P:Program) (t:TypeId):Option (List (Nat×Nat)):=(structOf P t).bind fun fs=>cW (fun f:Field=>(P.info? f.type).map fun j=>(f.offset,j.size)) fs.toList
theorem bJ {place:Nat->Option (Nat×Nat)} {cells:List V}:kx place ev [] cells=some cells:=rfl
theorem bD {place:Nat->Option (Nat×Nat)} {i:Nat} {x:Operand} {l:List (Nat×Operand)} {cells:List V} {off size:Nat} {v:V} {vs:List V} {r:Option (List V)} (a:place i=some (off,size)) (b:ev x=some v) (c:cS v=some vs) (d:(Nat.beq (cX vs) size && Nat.ble (off+size) (cX cells))=true) (h:kx place ev l (dG vs cells off)=r):kx place ev ((i,x)::l) cells=r:=by
 have e:(ev x).bind cS=some vs:=by rw[b];exact c
 show(match place i,(ev x).bind cS with
   | some (off,size),some vs=>bif Nat.beq (cX vs) size && Nat.ble (off+size) (cX cells) then kx place ev l (dG vs cells off) else none
   | _,_=>none)=_
 rw[a,e];dsimp only;rw[d];exact h
theorem bF {t:TypeId} {parts:Array (Nat×Operand)} {places:List (Nat×Nat)} {zero cs:List V} (a:placesOf P t=some places) (c:(fB P t).bind cS=some zero) (hu:dU P t=some (some zero.length)) (d:kx (nth places) ev parts.toList zero=some cs) (b:(structOf P t).isSome=true):dW P G ev U (.build t parts)= .val (.agg cs) U:=by
 refine bn Z ?_;unfold placesOf structOf at a;unfold structOf at b;rw[ow] at a b;simp only[di,c];split at b
 ·rename_i fs hu;rw[hu] at a⊢;simp only[Option.bind_some] at a;simp only[a,d,Option.map_some]
 cases b
theorem ek {s d:TypeId} {x:Operand} {j k:IntKind} {n:Int} (a:kindOf P (.convert s d x)= .pure) (b:P.underlying s=some (.int j)) (c:P.underlying d=some (.int k)) (e:ev x=some (.int j n)):dW P G ev U (.convert s d x)= .val (.int k<|wr k n) U:=by
 refine bn a ?_;simp only[di,b,c,e]
end
section
variable {P:Program} {G:Cx} {n:Nat} {t:N V} {U:D} {K:KP} {L:Own} {Q:Ex->N V->D->Prop} {ops:Array Oper} {o:Oper} {l:List Oper}
theorem Fz {f:Nat} {args:List V} {c:Bool} {t':V->N V} (hw:bM ops t o=some true) (a:dW P G (bE G t) U o.op= .enter f args U) (b:∀v,dI t n o.dst v=some (t' v))
  (d:bk P G f args U fun v U'=>v= .bool c/\J U' K L) (e:c=true->∀U',J U' K L->bP P G ops n l (t' (.bool true)) U' Q) (g:c=false->∀U',J U' K L->bP P G ops n l (t' (.bool false)) U' Q):bP P G ops n (o::l) t U Q:=
 cH hw a b d fun v U' ⟨a,aq⟩=>by
  subst a;cases c with
  | true=>exact e Z U' aq
  | false=>exact g Z U' aq
theorem bf {f:Nat} {args:List V} {u:V} {t':V->N V} (hw:bM ops t o=some true) (a:dW P G (bE G t) U o.op= .enter f args U) (b:∀v,dI t n o.dst v=some (t' v))
  (c:bk P G f args U fun v U'=>v=u/\J U' K L) (h:∀U',J U' K L->bP P G ops n l (t' u) U' Q):bP P G ops n (o::l) t U Q:=
 cH hw a b c fun v U' ⟨a,aq⟩=>by subst a;exact h U' aq
theorem aH {x:Operand} {a b:Code} (c:bE G t x=some (.bool true)) (h:Ev P G a n t U Q):Ev P G (.cond x a b) n t U Q:=zP c h
theorem aK {x:Operand} {a b:Code} (c:bE G t x=some (.bool false)) (h:Ev P G b n t U Q):Ev P G (.cond x a b) n t U Q:=zP c h
theorem ad {b:Code} (h:Ev P G b n t U Q):cN P G n b Q .normal t U:=h
theorem aJ {id:Nat} (h:Q .normal t U):iL id Q .normal t U:=h
theorem aF {id:Nat} (h:Q .ret t U):iL id Q .ret t U:=h
def wV (I_:Nat->N V->D->Prop) (j:Nat) (Q:Ex->N V->D->Prop) (e:Ex) (t:N V) (U:D):Prop:=
 match e with
 | .normal=>∃i,i<j/\I_ i t U
 | e=>Q e t U
theorem aO {I_:Nat->N V->D->Prop} {j:Nat} (h:∃i,i<j/\I_ i t U):wV I_ j Q .normal t U:=h
theorem bc {I_:Nat->N V->D->Prop} {j i:Nat} (h:Q (.exit i) t U):wV I_ j Q (.exit i) t U:=h
theorem bz {I_:Nat->N V->D->Prop} {j:Nat} (h:Q .ret t U):wV I_ j Q .ret t U:=h
theorem Ip {b:Code} (I_:Nat->N V->D->Prop) (j:Nat) (a:I_ j t U) (step:∀j t U,I_ j t U->Ev P G b n t U (wV I_ j Q)):Ev P G (.loop b) n t U Q:=
 KH I_ (fun j t U h=>(step j t U h).mono fun e t' U' c=>by cases e<;>exact c) j t U a
end
def KY:Nat:=70
def DY (f:Nat):Bool:=Nat.beq f 9 || Nat.beq f 18
structure Plain (G:Cx):Prop where
 h1:∀f a s,G.HB f a s=none
 h2:∀f a,DY f=false->G.HD f a=none
 h3:G.mem= []
 h4:∀f a s,G.stop f a s=none
 h5:∀f,Nat.beq f KY=false->G.fk f=false
theorem Iq {P:Program} {G:Cx} (a:Plain G) {f:Nat} {fn:Func} {c:Code} {args:List V} {U:D} {R:V->D->Prop} {t:N V} (b:P.funcs[f]?=some fn) (d:fn.body=some c) (g:ry fn.ntmps args=some t)
  (h:Ev P G c fn.ntmps t U fun e t' U'=>(e= .normal∨e= .ret)/\∃v,fm P fn t' U'=some v/\R v U') (i:Nat.beq f KY=false:=by rfl) (j:DY f=false:=by rfl):bk P G f args U R:=
 KG (a.h1 _ _ _) (a.h2 _ _ j) (a.h4 _ _ _) (a.h5 _ i) b d g h
def BB (P:Program) (fn:Func) (R:V->D->Prop) (e:Ex) (t:N V) (U:D):Prop:=(e= .normal∨e= .ret)/\∃v,fm P fn t U=some v/\R v U
theorem bh {P:Program} {G:Cx} (a:Plain G) {f:Nat} {fn:Func} {c:Code} {args:List V} {U:D} {R:V->D->Prop} {t:N V} (b:P.funcs[f]?=some fn) (d:fn.body=some c) (e:ry fn.ntmps args=some t)
  (h:Ev P G c fn.ntmps t U (BB P fn R)) (g:Nat.beq f KY=false:=by rfl) (i:DY f=false:=by rfl):bk P G f args U R:=Iq a b d e h g i
theorem Cp {P:Program} {fn:Func} {k:Nat} {t:N V} {U:D} {v:V} (a:fn.results.toList= [.tmp k]) (h:t.get k=some v):fm P fn t U=some v:=by
 unfold fm;rw[a]
 have:cW (g9 P t U) [.tmp k]=some [v]:=by
  have h':g9 P t U (.tmp k)=some v:=h;unfold cW;simp only[h']
 rw[this]
theorem Cq {P:Program} {fn:Func} {j k:Nat} {t:N V} {U:D} {u v:V} (c:fn.results.toList= [.tmp j,.tmp k]) (d:t.get j=some u) (e:t.get k=some v):fm P fn t U=some (.tuple [u,v]):=by
 unfold fm;rw[c]
 have:cW (g9 P t U) [.tmp j,.tmp k]=some [u,v]:=by
  have a:g9 P t U (.tmp j)=some u:=d;have b:g9 P t U (.tmp k)=some v:=e;unfold cW;simp only[a,b]
 rw[this]
theorem aA {P:Program} {fn:Func} {R:V->D->Prop} {t:N V} {U:D} {k:Nat} {v:V} (a:fn.results.toList= [.tmp k]) (h:t.get k=some v) (b:R v U):BB P fn R .ret t U:=⟨.inr Z,v,Cp a h,b⟩
theorem bV {P:Program} {fn:Func} {R:V->D->Prop} {t:N V} {U:D} {j k:Nat} {u v:V} (a:fn.results.toList= [.tmp j,.tmp k]) (b:t.get j=some u) (c:t.get k=some v) (d:R (.tuple [u,v]) U):BB P fn R .ret t U:=⟨.inr Z,_,Cq a b c,d⟩
end Go.Ev
namespace Go.Ev
theorem kD.eta {α:Type} (t:kD α):t=⟨(kh 0).run t,(kh 1).run t,(kh 2).run t,(kh 3).run t,(kh 4).run t,(kh 5).run t,(kh 6).run t,(kh 7).run t,(kh 8).run t,(kh 9).run t,(kh 10).run t,(kh 11).run t,(kh 12).run t,(kh 13).run t,(kh 14).run t,(kh 15).run t⟩:=by cases t;rfl
theorem kD.same {α:Type} {t t':kD α} (h:∀n,n<16->(kh n).run t=(kh n).run t'):t=t':=by
 rw[kD.eta t,h 0 (by decide),h 1 (by decide),h 2 (by decide),h 3 (by decide),h 4 (by decide),h 5 (by decide),h 6 (by decide),h 7 (by decide),h 8 (by decide),h 9 (by decide),h 10 (by decide),h 11 (by decide),h 12 (by decide),h 13 (by decide),h 14 (by decide),h 15 (by decide),<-kD.eta t']
theorem jN.same {α:Type} {t t':jN α} (h:∀k,k<256->jV t k=jV t' k):t=t':=by
 refine kD.same fun n hn=>kD.same fun m hm=>?_
 have:=h (n*16+m) B;unfold jV at this;have a:Nat.div (n*16+m) 16=n:=by show(n*16+m)/16=n;omega
 have b:Nat.mod (n*16+m) 16=m:=by show(n*16+m)%16=m;omega
 rw[a,b] at this;exact this
variable [Env]
def bd (W:List Nat) (t t':N V):Prop:=t'.m=t.m/\t'.l=t.l/\∀k,k<256->W.elem k=false->jV t'.s k=jV t.s k
theorem bd.refl (W:List Nat) (t:N V):bd W t t:=⟨Z,Z,fun _ _ _=>Z⟩
theorem bd.put {W:List Nat} {t t':N V} {w:Nat} {o:Option V} (hw:(W.elem w && Nat.blt w 256)=true) (h:bd W t t'):bd W t (t'.put o w):=by
 obtain⟨c,d,f⟩:=h;rw[bA_,sE] at hw;obtain⟨s,m,l⟩:=t';rw[N.s7 _ _ _ _ hw.2];refine⟨c,d,fun k b a=>?_⟩;show jV (pF s w o) k=_;rw[mF _ _ _ _ hw.2 b,if_neg (fun e=>by subst e;rw[hw.1] at a;cases a)];exact f k b a
theorem bd.dP {W:List Nat} {t t':N V} {w:Nat} (hw:Nat.blt w 256=true) (h:bd (w::W) t t'):∃o,bd W (t.put o w) t':=by
 rw[sE] at hw;obtain⟨b,c,d⟩:=h;refine⟨t'.get w,?_⟩;obtain⟨s,m,l⟩:=t;rw[N.s7 _ _ _ _ hw,N.pY _ hw];refine⟨b,c,fun k a f=>?_⟩;show _=jV (pF s w _) k;rw[mF _ _ _ _ hw a];split
 ·rename_i e;rw[e]
 rename_i e;refine d k a ?_;rw[List.elem_cons,f];have:(k == w)=false:=by simpa using e
 rw[this]
theorem bd.lD {W:List Nat} {t t':N V} {a b c d:Nat} (hw:(Nat.blt a 256 && (Nat.blt b 256 && (Nat.blt c 256 && Nat.blt d 256)))=true) (h:bd (a::b::c::d::W) t t'):∃e f g i,bd W ((((t.put e a).put f b).put g c).put i d) t':=by
 simp only[bA_] at hw;obtain⟨j,k,l,m⟩:=hw;obtain⟨e,h⟩:=h.dP j;obtain⟨f,h⟩:=h.dP k;obtain⟨g,h⟩:=h.dP l;obtain⟨i,h⟩:=h.dP m;exact⟨e,f,g,i,h⟩
theorem bd.cr {W:List Nat} {t t':N V} {a b c d e f g i:Nat} (hw:(Nat.blt a 256 && (Nat.blt b 256 && (Nat.blt c 256 && Nat.blt d 256)))=true) (j:(Nat.blt e 256 && (Nat.blt f 256 && (Nat.blt g 256 && Nat.blt i 256)))=true) (h:bd (a::b::c::d::e::f::g::i::W) t t'):
  ∃k l m o p q r s,bd W ((((((((t.put k a).put l b).put m c).put o d).put p e).put q f).put r g).put s i) t':=by
 obtain⟨k,l,m,o,h⟩:=h.lD hw;obtain⟨p,q,r,s,h⟩:=h.lD j;exact⟨k,l,m,o,p,q,r,s,h⟩
theorem bd.nil {t t':N V} (h:bd [] t t'):t'=t:=by
 obtain⟨s,m,l⟩:=t;obtain⟨s',m',l'⟩:=t';obtain⟨a,b,c⟩:=h;have:s'=s:=jN.same fun k d=>c k d Z
 cases a;cases b;cases this;rfl
section
variable {P:Program} {G:Cx} {n:Nat} {t:N V} {U:D} {Q:Ex->N V->D->Prop}
theorem bp {b:Code} (W:List Nat) (I_:Nat->N V->D->Prop) (j:Nat) (a:I_ j t U) (step:∀j t' U,bd W t t'->I_ j t' U->Ev P G b n t' U (wV (fun j t'' U=>bd W t t''/\I_ j t'' U) j Q)):Ev P G (.loop b) n t U Q:=
 Ip (fun j t'' U=>bd W t t''/\I_ j t'' U) j ⟨bd.refl _ _,a⟩ fun j t' U h=>step j t' U h.1 h.2
end
theorem lX {a b:Nat}:bU (.ofNat a) (.ofNat b)=decide (a<b):=by
 show Nat.ble (Nat.succ a) b=_;rw[Bool.eq_iff_iff,nE_,decide_eq_true_iff];rfl
theorem fv {a b:Nat}:I (.ofNat a) (.ofNat b)=decide (a=b):=by
 show Nat.beq a b=_;rw[Bool.eq_iff_iff,Nat.beq_eq,decide_eq_true_iff]
theorem bg {i:Nat} (h:i<9223372036854775807):wr .i64 (Int.add (.ofNat i) (.ofNat 1))= .ofNat (i+1):=by
 show(bif Nat.ble (i+1) 9223372036854775807 then _ else _)=_;rw[show Nat.ble (i+1) 9223372036854775807=true from by rw[nE_];exact h];rfl
end Go.Ev
namespace Go.Ev
variable [Env]
section
variable {P:Program} {G:Cx} {n:Nat} {t:N V} {U:D} {K:KP} {L:Own} {Q:Ex->N V->D->Prop} {ops:Array Oper} {o:Oper} {i:Nat} {rc:List Nat} {l:List (Nat×List Nat)}
theorem eM {v:V} {t':N V} {U':D} (a:ops[i]?=some o) (hw:bM ops t o=some true) (b:dW P G (bE G t) U o.op= .val v U') (c:dI t n o.dst v=some t') (h:dn P G ops t' U' rc=true/\cE P G ops n l t' U' Q):cE P G ops n ((i,rc)::l) t U Q:=by
 obtain⟨d,K,e,f,g,j,m⟩:=h;refine⟨K,e,f,g,fun k p=>?_,m⟩
 show(match ops[i]? with
  | some o=>ju P G (ew P G k) false ops n o t U (fun t' U'=>bif dn P G ops t' U' rc then ke P G (ew P G k) ops n [] l t' U' else .err 86)
  | none=>.err 87)=_
 rw[a];unfold ju;dsimp only;rw[hw];dsimp only;rw[b];dsimp only[lT];rw[c];dsimp only;rw[d];exact j k p
theorem oN {t':N V} {U':D} (a:ops[i]?=some o) (hw:bM ops t o=some true) (b:dW P G (bE G t) U o.op= .skip U') (c:dI t n o.dst unit=some t') (h:dn P G ops t' U' rc=true/\cE P G ops n l t' U' Q):cE P G ops n ((i,rc)::l) t U Q:=by
 obtain⟨d,K,e,f,g,j,m⟩:=h;refine⟨K,e,f,g,fun k p=>?_,m⟩
 show(match ops[i]? with
  | some o=>ju P G (ew P G k) false ops n o t U (fun t' U'=>bif dn P G ops t' U' rc then ke P G (ew P G k) ops n [] l t' U' else .err 86)
  | none=>.err 87)=_
 rw[a];unfold ju;dsimp only;rw[hw];dsimp only;rw[b];dsimp only[lT];rw[c];dsimp only;rw[d];exact j k p
theorem aV:dn P G ops t U []=true:=rfl
theorem bB {j:Nat} {l:List Nat} (h:jh P G ops t U j=true) (a:dn P G ops t U l=true):dn P G ops t U (j::l)=true:=by
 show(bif jh P G ops t U j then dn P G ops t U l else false)=true;rw[h];exact a
theorem bN {k:Nat} {v:V} (b:ops[i]?=some o) (hw:bM ops t o=some true) (c:o.dst=some k) (d:t.get k=some v) (a:kindOf P o.op= .read) (h:dW P G (bE G t) U o.op= .val v U) (e:dX v v=true):jh P G ops t U i=true:=by
 have f:gW P (bE G t) U o.op=some v:=by
  unfold dW at h;rw[a] at h;dsimp only at h;split at h
  ·rename_i u hu;cases h;exact hu
  cases h
 unfold jh;rw[b];dsimp only;rw[hw];dsimp only;rw[c];dsimp only;rw[show t.get (posOf k)=some v from d];dsimp only;rw[a];dsimp only;rw[f];exact e
theorem JJ (a:ops[i]?=some o) (hw:bM ops t o=some false):jh P G ops t U i=true:=by
 unfold jh;rw[a];dsimp only;rw[hw]
theorem iq {k b e:Nat} {cs:List V} (a:ops[i]?=some o) (hw:bM ops t o=some true) (c:o.dst=some k) (d:t.get k=some (.ptr b 0)) (f:kindOf P o.op= .alloc) (g:gi P (bE G t) o.op=some (.row cs e false,.ptr)) (hm:U.m.get b=some (.row cs e false)) (h:dX.beqL cs cs=true):jh P G ops t U i=true:=by
 unfold jh;rw[a];dsimp only;rw[hw];dsimp only;rw[c];dsimp only;rw[show t.get (posOf k)=some (.ptr b 0) from d];dsimp only;rw[f];dsimp only;rw[g];show(match U.m.get b with | some (.row cs' e' false)=>Nat.beq e e' && dX.beqL cs cs' | _=>false)=true;rw[hm];show(Nat.beq e e && dX.beqL cs cs)=true;rw[h,Nat.beq_refl];rfl
theorem fL (k:IntKind) (n:Int):dX.fD (.int k n) (.int k n)=true:=by
 show(r9 k k && I n n)=true;rw[dF];cases k<;>simp[r9]
theorem sB (s:List Nat):dX.fD (.str s) (.str s)=true:=by
 show gL s s=true;rw[mB];simp
theorem bR.fD {α:Type} {K:KP} {m:Nat} {R:α->List V->Prop} {l:List α} {v:V} (h:bR K m R l v):dX.fD v v=true:=by
 rcases h with ⟨_,rfl⟩ | ⟨b,off,c,cells,e,ro,rfl,d,_⟩
 ·rfl
 show(dX.beqP b b && Nat.beq off off && Nat.beq l.length l.length && dX.beqC c c)=true;have f:dX.beqP b b=true:=Nat.beq_refl b
 have a:dX.beqC c c=true:=by
  rcases d with rfl | ⟨n,rfl,_⟩
  ·exact Nat.beq_refl m
  exact Nat.beq_refl n
 simp[f,a]
theorem fx:dX.beqL [] []=true:=rfl
theorem bS {v:V} {vs:List V} (h:dX.fD v v=true) (a:dX.beqL vs vs=true):dX.beqL (v::vs) (v::vs)=true:=by
 show(bif dX.fD v v then dX.beqL vs vs else false)=true;rw[h];exact a
theorem gH {vs:List V} (h:dX.beqL vs vs=true):dX (.agg vs) (.agg vs)=true:=h
theorem dZ {c:Bool} {t':Bool->N V} (a:ops[i]?=some o) (hw:bM ops t o=some true) (d:dW P G (bE G t) U o.op= .val (.bool c) U) (e:∀b,dI t n o.dst (.bool b)=some (t' b))
  (f:c=true->cE P G ops n l (t' true) U Q) (g:c=false->cE P G ops n l (t' false) U Q):cE P G ops n ((i,[])::l) t U Q:=by
 refine al a hw d (e c) ?_;cases c with
 | true=>exact f Z
 | false=>exact g Z
theorem pB (c:J U K L) {ob:cG} {t':Nat->N V} (a:ops[i]?=some o) (hw:bM ops t o=some true) (d:dW P G (bE G t) U o.op= .val (.ptr U.next 0) (U.alloc ob)) (e:∀b,dI t n o.dst (.ptr b 0)=some (t' b))
  (h:∀(U':D) (b:Nat),J U' K ((b,ob)::L)->cE P G ops n l (t' b) U' Q):cE P G ops n ((i,[])::l) t U Q:=
 al a hw d (e _) (h _ _<|c.alloc ob)
theorem j1 (d:J U K L) {ob:cG} {k c:Nat} {t':Nat->N V} (a:ops[i]?=some o) (hw:bM ops t o=some true) (e:dW P G (bE G t) U o.op= .val (.slice U.next 0 k (.known c)) (U.alloc ob)) (f:∀b,dI t n o.dst (.slice b 0 k (.known c))=some (t' b))
  (h:∀(U':D) (b:Nat),J U' K ((b,ob)::L)->cE P G ops n l (t' b) U' Q):cE P G ops n ((i,[])::l) t U Q:=
 al a hw e (f _) (h _ _<|d.alloc ob)
theorem kb {b:Nat} {ob ob':cG} {t':N V} (c:J U K ((b,ob)::L)) (a:ops[i]?=some o) (hw:bM ops t o=some true) (d:dW P G (bE G t) U o.op= .skip (U.setObj b ob')) (e:dI t n o.dst unit=some t')
  (h:∀U',J U' K ((b,ob')::L)->(dn P G ops t' U' rc=true/\cE P G ops n l t' U' Q)):cE P G ops n ((i,rc)::l) t U Q:=oN a hw d e (h _<|c.pf ob')
theorem z9 {b:Nat} {ob ob':cG} {x:Nat×cG} {t':N V} (c:J U K (x::(b,ob)::L)) (a:ops[i]?=some o) (hw:bM ops t o=some true) (d:dW P G (bE G t) U o.op= .skip (U.setObj b ob')) (e:dI t n o.dst unit=some t')
  (h:∀U',J U' K (x::(b,ob')::L)->(dn P G ops t' U' rc=true/\cE P G ops n l t' U' Q)):cE P G ops n ((i,rc)::l) t U Q:=oN a hw d e (h _<|c.Lr ob')
theorem cO {α:Type} {m:Nat} {R:α->List V->Prop} {la:List α} {v:V} {ix:Nat} {x:α} {ty e:TypeId} {xo io:Operand} {k:IntKind} {t':V->N V} (g:bR K m R la v) (j:la[ix]?=some x) (a:ops[i]?=some o) (hw:bM ops t o=some true) (q:o.op= .indexAddr ty xo io)
  (r:P.underlying ty=some (.slice e)) (s:(P.info? e).map (·.size)=some m) (u:bE G t xo=some v) (d:bE G t io=some (.int k (.ofNat ix))) (w:∀p,dI t n o.dst p=some (t' p))
  (h:∀p vs,ib K p vs->vs.length=m->R x vs->cE P G ops n l (t' p) U Q):cE P G ops n ((i,[])::l) t U Q:=by
 obtain⟨b,off,c,vs,rfl,f,y,z,A⟩:=g.at j;refine al a hw ?_ (w _)<|h _ vs y z A;rw[q];exact eo r s u d f
theorem ka {p:V} {vs:List V} {s:TypeId} {xo:Operand} {fi k:Nat} {t':V->N V} (a:ib K p vs) (c:ops[i]?=some o) (hw:bM ops t o=some true) (d:o.op= .fieldAddr s xo fi) (f:bE G t xo=some p) (g:nV P s fi=some k) (hl:k<=vs.length) (j:∀p,dI t n o.dst p=some (t' p))
  (h:∀p',ib K p' (vs.drop k)->cE P G ops n l (t' p') U Q):cE P G ops n ((i,[])::l) t U Q:=by
 obtain⟨b,off,cells,e,ro,rfl,m,h3,q⟩:=a;refine al c hw ?_ (j _)<|h _ ⟨b,off+k,cells,e,ro,Z,m,by rw[lD_];omega,?_⟩
 ·rw[d];exact av f g
 rw[lD_]
 conv=>rhs;rw[<-q]
 rw[List.drop_take,List.drop_drop]
theorem jg {f:Nat} {args:List V} {t':V->N V} {R:V->D->Prop} (a:ops[i]?=some o) (hw:bM ops t o=some true) (b:dW P G (bE G t) U o.op= .enter f args U) (c:∀v,dI t n o.dst v=some (t' v))
  (d:bk P G f args U R) (h:∀v U',R v U'->(dn P G ops (t' v) U' rc=true/\cE P G ops n l (t' v) U' Q)):cE P G ops n ((i,rc)::l) t U Q:=by
 refine BE a hw b<|d.mono fun v U' e=>?_;obtain⟨g,j⟩:=h v U' e;exact⟨_,c v,g,j⟩
theorem cA {f:Nat} {args:List V} {u:V} {t':V->N V} (a:ops[i]?=some o) (hw:bM ops t o=some true) (b:dW P G (bE G t) U o.op= .enter f args U) (c:∀v,dI t n o.dst v=some (t' v))
  (d:bk P G f args U fun v U'=>v=u/\J U' K L) (h:∀U',J U' K L->(dn P G ops (t' u) U' rc=true/\cE P G ops n l (t' u) U' Q)):cE P G ops n ((i,rc)::l) t U Q:=
 jg a hw b c d fun v U' ⟨b,aq⟩=>by subst b;exact h U' aq
theorem aS {id:Nat} {l:List (Nat×List Nat)} (a:sb P ops=true) (b:jB P ops=l) (h:cE P G ops n l t U Q):Ev P G (.region id ops true) n t U Q:=by
 subst b;exact wm a h
end
end Go.Ev
namespace Go.Ev
variable [Env]
section
variable {P:Program} {G:Cx} {n:Nat} {t:N V} {U:D} {Q:Ex->N V->D->Prop} {ops:Array Oper} {o:Oper} {l:List Oper}
end
section
variable {P:Program} {G:Cx} {n:Nat} {U:D} {Q:Ex->N V->D->Prop} {ops:Array Oper}
def Ej (n:Nat) (t:N V) (d:Option Nat) (v:Option V):Option (N V):=match v with | some v=>dI t n d v | none=>none
def HL (P:Program) (k:Bool) (o:BinOp) (ty:TypeId) (a b:Option V):Option V:=match a with | some a=>(match b with | some b=>vh P k o ty a b | none=>none) | none=>none
def Cj (c a b:Option V):Option V:=match c with | some (.bool q)=>if q then a else b | _=>none
def Ng (P:Program) (G:Cx) (t:N V) (op:Op):Option V:=
 match op with
 | .move x=>bE G t x
 | .assign x=>bE G t x
 | .pick c a b=>Cj (bE G t c) (bE G t a) (bE G t b)
 | .binOp o ty x y _=>HL P (yT x || yT y) o ty (bE G t x) (bE G t y)
 | .extract x i=>di P (bE G t) (.extract x i)
 | .makeFunc x y z=>di P (bE G t) (.makeFunc x y z)
 | .unOp x y z=>di P (bE G t) (.unOp x y z)
 | .field x y z=>di P (bE G t) (.field x y z)
 | _=>none
theorem wZ {t:N V} {op:Op} {v:V} (h:Ng P G t op=some v):dW P G (bE G t) U op= .val v U:=by
 unfold Ng at h;split at h
 ·exact an h
 ·exact aj h
 ·unfold Cj at h;split at h
  ·rename_i q c;exact aD c h
  cases h
 ·unfold HL at h;split at h
  ·rename_i a d;split at h
   ·rename_i b e;exact az d e h
   cases h
  cases h
 ·exact bn Z h
 ·exact bn Z h
 ·exact bn Z h
 ·exact bn Z h
 cases h
def mW (P:Program) (G:Cx) (ops:Array Oper) (n:Nat) (t:N V) (o:Oper):Option (N V):=
 match bM ops t o with
 | some w=>bif w then Ej n t o.dst (Ng P G t o.op) else dI t n o.dst unit
 | none=>none
theorem td {t t':N V} {o:Oper} {l:List Oper} (h:mW P G ops n t o=some t') (a:bP P G ops n l t' U Q):bP P G ops n (o::l) t U Q:=by
 unfold mW at h;split at h
 ·rename_i w hw;cases w with
  | true=>
   simp only[cond_true] at h;unfold Ej at h;split at h
   ·rename_i v b;exact O hw (wZ b) h a
   cases h
  | false=>exact ae hw h a
 cases h
def quick (P:Program) (G:Cx) (ops:Array Oper) (n:Nat):Nat->List Oper->N V->Option (List Oper×N V)
 | 0,l,t=>some (l,t)
 | k+1,l,t=>match l with
  | o::l=>match mW P G ops n t o with
   | some t'=>quick P G ops n k l t'
   | none=>none
  | []=>none
theorem vQ (k:Nat) {l l':List Oper} {t t':N V} (h:quick P G ops n k l t=some (l',t')) (a:bP P G ops n l' t' U Q):bP P G ops n l t U Q:=by
 induction k generalizing l t with
 | zero=>simp only[quick,oJ_,Prod.mk.injEq] at h;obtain⟨rfl,rfl⟩:=h;exact a
 | succ k ih=>
  unfold quick at h;split at h
  ·split at h
   ·rename_i t1 b;exact td b<|ih h
   cases h
  cases h
def pb (P:Program) (G:Cx) (ops:Array Oper) (n:Nat):Nat->List (Nat×List Nat)->N V->Option (List (Nat×List Nat)×N V)
 | 0,l,t=>some (l,t)
 | k+1,l,t=>match l with
  | (i,[])::l=>match ops[i]? with
   | some o=>match mW P G ops n t o with
    | some t'=>pb P G ops n k l t'
    | none=>none
   | none=>none
  | _=>none
theorem tc {t t':N V} {i:Nat} {o:Oper} {l:List (Nat×List Nat)} (a:ops[i]?=some o) (h:mW P G ops n t o=some t') (b:cE P G ops n l t' U Q):cE P G ops n ((i,[])::l) t U Q:=by
 unfold mW at h;split at h
 ·rename_i w hw;cases w with
  | true=>
   simp only[cond_true] at h;unfold Ej at h;split at h
   ·rename_i v c;exact al a hw (wZ c) h b
   cases h
  | false=>exact au a hw h b
 cases h
theorem wQ (k:Nat) {l l':List (Nat×List Nat)} {t t':N V} (h:pb P G ops n k l t=some (l',t')) (a:cE P G ops n l' t' U Q):cE P G ops n l t U Q:=by
 induction k generalizing l t with
 | zero=>simp only[pb,oJ_,Prod.mk.injEq] at h;obtain⟨rfl,rfl⟩:=h;exact a
 | succ k ih=>
  unfold pb at h;split at h
  ·split at h
   ·rename_i o b;split at h
    ·rename_i t1 c;exact tc b c<|ih h
    cases h
   cases h
  cases h
section
variable {ev:Operand->Option V} {K:KP} {L:Own}
theorem QA (k:Nat) {s:TypeId} {x:Operand} {i:Nat} {b:Pos} {off:Nat} (a:ev x=some (.ptr b off)) (c:nV P s i=some k:=by kernel_rfl):dW P G ev U (.fieldAddr s x i)= .val (.ptr b (off+k)) U:=av a c
theorem Qz {c:Call} {f:Operand} {g:Nat} {fi ca args:List V} (a:c.callee= .value f) (b:ev f=some (.func g fi ca)) (d:tN ev c.args.toList=some args) (e:zV P g=true:=by kernel_rfl):dW P G ev U (.call c)= .enter g (fi++(args++ca)) U:=aR a b d e
theorem QB {t:TypeId} {x:Operand} {b:Pos} {off:Nat} {cells:List V} {e:Nat} {ro:Bool} {v:V} (a:ev x=some (.ptr b off)) (c:U.m.get b=some (.row cells e ro)) (d:nth cells off=some v) (f:dU P t=some none:=by kernel_rfl):dW P G ev U (.load t x)= .val v U:=ay a c f d
theorem QC {t:TypeId} {x:Operand} {b:Pos} {off n:Nat} {cells:List V} {e:Nat} {ro:Bool} {vs:List V} (a:ev x=some (.ptr b off)) (c:U.m.get b=some (.row cells e ro)) (d:(cells.drop off).take n=vs) (f:dU P t=some (some n):=by kernel_rfl) (g:off+n<=cells.length:=by exact Nat.le_of_ble_eq_true Z):dW P G ev U (.load t x)= .val (.agg vs) U:=aP a c f g d
theorem QH {t:TypeId} {m:Nat} {x y:Operand} {b:Pos} {off:Nat} {v:V} {cs cells cells':List V} {e:Nat} (c:ev x=some (.ptr b off)) (d:ev y=some v) (f:cS v=some cs) (g:U.m.get b=some (.row cells e false)) (h:cs.length=m) (a:cD cs=true) (i:dG cs cells off=cells')
  (j:(P.info? t).map (·.size)=some m:=by kernel_rfl) (hle:off+m<=cells.length:=by exact Nat.le_of_ble_eq_true Z):dW P G ev U (.store t x y)= .skip (U.setObj b (.row cells' e false)):=aL c d f g j h hle a i
theorem Qy {t:TypeId} {parts:Array (Nat×Operand)} {places:List (Nat×Nat)} {zero cs:List V} (a:kx (nth places) ev parts.toList zero=some cs) (b:placesOf P t=some places:=by kernel_rfl) (c:(fB P t).bind cS=some zero:=by kernel_rfl) (hu:dU P t=some (some zero.length):=by kernel_rfl) (d:(structOf P t).isSome=true:=by kernel_rfl):dW P G ev U (.build t parts)= .val (.agg cs) U:=bF b c hu a d
theorem QE {e:TypeId} {cs:List V} (a:(fB P e).bind cS=some cs:=by kernel_rfl) (b:ta P e=false:=by kernel_rfl):dW P G ev U (.alloc e)= .val (.ptr U.next 0) (U.alloc (.row cs e false)):=cP a b
theorem QD {α:Type} {m:Nat} {R:α->List V->Prop} {l:List α} {c:Call} {t e:TypeId} {x:Operand} {v:V} (a:bR K m R l v) (b:c.callee= .builtin .len) (d:c.argTypes[0]?=some t) (f:c.args.toList= [x]) (g:ev x=some v) (hu:P.underlying t=some (.slice e):=by kernel_rfl):dW P G ev U (.call c)= .val (.int .i64 (.ofNat l.length)) U:=aW a b d f hu g
theorem QF {t:TypeId} {x:Operand} {p v:V} {vs:List V} (a:J U K L) (b:ib K p vs) (c:ev x=some p) (d:vs[0]?=some v) (e:dU P t=some none:=by kernel_rfl):dW P G ev U (.load t x)= .val v U:=aU a b c e d
theorem Qu {n:Nat} {t:N V} {o:Oper} {l:List Oper} {α:Type} {m:Nat} {R:α->List V->Prop} {la:List α} {v:V} {i:Nat} {x:α} {ty e:TypeId} {xo io:Operand} {k:IntKind} {t':V->N V} (b:bR K m R la v) (c:la[i]?=some x) (hw:bM ops t o=some true) (d:o.op= .indexAddr ty xo io)
  (f:bE G t xo=some v) (a:bE G t io=some (.int k (.ofNat i)))
  (h:∀p vs,ib K p vs->vs.length=m->R x vs->bP P G ops n l (t' p) U Q) (g:P.underlying ty=some (.slice e):=by kernel_rfl) (j:(P.info? e).map (·.size)=some m:=by kernel_rfl) (q:∀p,dI t n o.dst p=some (t' p):=by exact fun _=>Z):bP P G ops n (o::l) t U Q:=bZ b c hw d g j f a q h
theorem Qv {n i:Nat} {t:N V} {o:Oper} {l:List (Nat×List Nat)} {α:Type} {m:Nat} {R:α->List V->Prop} {la:List α} {v:V} {ix:Nat} {x:α} {ty e:TypeId} {xo io:Operand} {k:IntKind} {t':V->N V} (c:bR K m R la v) (d:la[ix]?=some x) (a:ops[i]?=some o) (hw:bM ops t o=some true) (f:o.op= .indexAddr ty xo io)
  (g:bE G t xo=some v) (b:bE G t io=some (.int k (.ofNat ix)))
  (h:∀p vs,ib K p vs->vs.length=m->R x vs->cE P G ops n l (t' p) U Q) (j:P.underlying ty=some (.slice e):=by kernel_rfl) (q:(P.info? e).map (·.size)=some m:=by kernel_rfl) (r:∀p,dI t n o.dst p=some (t' p):=by exact fun _=>Z):cE P G ops n ((i,[])::l) t U Q:=cO c d a hw f j q g b r h
end
theorem bd.Ph {W:List Nat} {t t':N V} {a b c d e f g i a' b' c' d' e' f' g' i':Nat} (hw:(Nat.blt a 256 && (Nat.blt b 256 && (Nat.blt c 256 && Nat.blt d 256)))=true) (j:(Nat.blt e 256 && (Nat.blt f 256 && (Nat.blt g 256 && Nat.blt i 256)))=true) (k:(Nat.blt a' 256 && (Nat.blt b' 256 && (Nat.blt c' 256 && Nat.blt d' 256)))=true) (l:(Nat.blt e' 256 && (Nat.blt f' 256 && (Nat.blt g' 256 && Nat.blt i' 256)))=true) (h:bd (a::b::c::d::e::f::g::i::a'::b'::c'::d'::e'::f'::g'::i'::W) t t'):
  ∃m o p q r s u v w x y z A C E F,bd W ((((((((((((((((t.put m a).put o b).put p c).put q d).put r e).put s f).put u g).put v i).put w a').put x b').put y c').put z d').put A e').put C f').put E g').put F i') t':=by
 obtain⟨m,o,p,q,r,s,u,v,h⟩:=h.cr hw j;obtain⟨w,x,y,z,A,C,E,F,h⟩:=h.cr k l;exact⟨m,o,p,q,r,s,u,v,w,x,y,z,A,C,E,F,h⟩
theorem lb {a b:Nat} (h:Nat.ble a b=true):a<=b:=Nat.le_of_ble_eq_true h
theorem nT {b:Code} {t:N V} {Q:Ex->N V->D->Prop} (h:Ev P G b n t U Q):bP P G ops n [] t U (cN P G n b Q):=af (ad h)
theorem nS {id:Nat} {os:Array Oper} {b:Code} {t:N V} {Q:Ex->N V->D->Prop} (a:lE os.toList=false) (h:bP P G os n os.toList t U (cN P G n b Q)):bP P G ops n [] t U (cN P G n (.seq (.region id os false) b) Q):=af (ad<|ak<|ai a h)
theorem QG {K:KP} {L:Own} {ev:Operand->Option V} {t:TypeId} {x:Operand} {p:V} {vs:List V} {n:Nat} (a:J U K L) (b:ib K p vs) (c:ev x=some p) (d:vs.length=n) (e:dU P t=some (some n):=by kernel_rfl):dW P G ev U (.load t x)= .val (.agg vs) U:=bQ a b c e d
theorem kv {K:KP} {L:Own} {n:Nat} {t:N V} {o:Oper} {l:List Oper} {f:Nat} {args:List V} {u:V} {t':V->N V} (hw:bM ops t o=some true) (a:dW P G (bE G t) U o.op= .enter f args U)
  (b:bk P G f args U fun v U'=>v=u/\J U' K L) (h:∀U',J U' K L->bP P G ops n l (t' u) U' Q) (c:∀v,dI t n o.dst v=some (t' v):=by exact fun _=>Z):bP P G ops n (o::l) t U Q:=bf hw a c b h
theorem kp {K:KP} {L:Own} {n:Nat} {t:N V} {o:Oper} {l:List Oper} (a:J U K L) {ob:cG} {t':Nat->N V} (hw:bM ops t o=some true) (c:dW P G (bE G t) U o.op= .val (.ptr U.next 0) (U.alloc ob))
  (h:∀(U':D) (b:Nat),J U' K ((b,ob)::L)->bP P G ops n l (t' b) U' Q) (d:∀b,dI t n o.dst (.ptr b 0)=some (t' b):=by exact fun _=>Z):bP P G ops n (o::l) t U Q:=bH a hw c d h
abbrev T:V:=.int .i64 0
theorem oP {W:List Nat} {t t':N V} {w:Nat} {o:Option V} (hw:(W.elem w && Nat.blt w 256)=true) (h:bd W t t'):bd W t (t'.put o w):=h.put hw
theorem oR (W:List Nat) (t:N V):bd W t t:=.refl W t
theorem ct {α:Type} (a b:α):(bif true then a else b)=a:=rfl
theorem cf {α:Type} (a b:α):(bif false then a else b)=b:=rfl
theorem cI {a b:Int} (h:a=b):some (V.int .i64 a)=some (V.int .i64 b):=congrArg (fun z=>some (V.int .i64 z)) h
theorem cB {a b:Bool} (h:a=b):V.bool a=V.bool b:=congrArg V.bool h
theorem cJ {a b:Int} (h:a=b):V.int .i64 a=V.int .i64 b:=congrArg (V.int .i64) h
theorem J.g0 {K:KP} {L:Own} {b:Nat} {o:cG} (h:J U K ((b,o)::L)):U.m.get b=some o:=h.get 0 Z
theorem J.g1 {K:KP} {L:Own} {e:Nat×cG} {b:Nat} {o:cG} (h:J U K (e::(b,o)::L)):U.m.get b=some o:=h.get 1 Z
theorem ky {n:Nat} {t:N V} {o:Oper} {l:List Oper} {c:Bool} {t':Bool->N V} (hw:bM ops t o=some true) (a:dW P G (bE G t) U o.op= .val (.bool c) U)
  (d:c=true->bP P G ops n l (t' true) U Q) (e:c=false->bP P G ops n l (t' false) U Q) (f:∀b,dI t n o.dst (.bool b)=some (t' b):=by exact fun _=>Z):bP P G ops n (o::l) t U Q:=aM hw a f d e
end
section
variable {P:Program} {G:Cx} {n:Nat} {t:N V} {U:D} {Q:Ex->N V->D->Prop}
def Pb (W:List Nat) (t:N V) (I_:N V->D->Prop) (e:Ex) (t':N V) (U':D):Prop:=e= .normal/\bd W t t'/\I_ t' U'
theorem jv {a b:Code} (W:List Nat) (I_:N V->D->Prop) (c:Ev P G a n t U (Pb W t I_)) (d:∀t' U',bd W t t'->I_ t' U'->Ev P G b n t' U' Q):Ev P G (.seq a b) n t U Q:=
 ak (c.mono fun e t' U' h=>by obtain⟨rfl,f,g⟩:=h;exact d t' U' f g)
end
end Go.Ev
namespace Go.Ev
variable [Env]
set_option maxRecDepth 4000
section
variable {P:Program} {G:Cx} {n:Nat} {U:D} {Q:Ex->N V->D->Prop}
inductive Cf where
 | ops (os:Array Oper) (l:List Oper)
 | jB (os:Array Oper) (l:List (Nat×List Nat))
 | code (c:Code)
 | out (e:Ex)
inductive Fm where
 | seq (b:Code)
 | dE (id:Nat)
 | OF (I_:Nat->N V->D->Prop) (j:Nat)
def QS (P:Program) (G:Cx) (n:Nat) (Q:Ex->N V->D->Prop):List Fm->Ex->N V->D->Prop
 | []=>Q
 | .seq b::r=>cN P G n b (QS P G n Q r)
 | .dE id::r=>iL id (QS P G n Q r)
 | .OF I_ j::r=>wV I_ j (QS P G n Q r)
def At (P:Program) (G:Cx) (n:Nat) (U:D) (Q:Ex->N V->D->Prop) (c:Cf) (fs:List Fm) (t:N V):Prop:=
 match c with
 | .ops os l=>bP P G os n l t U (QS P G n Q fs)
 | .jB os l=>cE P G os n l t U (QS P G n Q fs)
 | .code c=>Ev P G c n t U (QS P G n Q fs)
 | .out e=>QS P G n Q fs e t U
def Eu (P:Program) (G:Cx) (n:Nat) (c:Code) (fs:List Fm) (t:N V):Option (Cf×List Fm×N V):=
 match c with
 | .seq a b=>some (.code a,.seq b::fs,t)
 | .region _ os false=>bif lE os.toList then none else some (.ops os os.toList,fs,t)
 | .cond x a b=>match bE G t x with
  | some (.bool true)=>some (.code a,fs,t)
  | some (.bool false)=>some (.code b,fs,t)
  | _=>none
 | .block id b=>some (.code b,.dE id::fs,t)
 | .skip=>some (.out .normal,fs,t)
 | .label _=>some (.out .normal,fs,t)
 | .exit id=>some (.out (.exit id),fs,t)
 | .ret=>some (.out .ret,fs,t)
 | _=>none
def Aw (P:Program) (G:Cx) (n:Nat) (c:Cf) (fs:List Fm) (t:N V):Option (Cf×List Fm×N V):=
 match c with
 | .ops _ []=>some (.out .normal,fs,t)
 | .ops os (o::l)=>match mW P G os n t o with
  | some t'=>some (.ops os l,fs,t')
  | none=>none
 | .jB _ []=>some (.out .normal,fs,t)
 | .jB os ((i,[])::l)=>match os[i]? with
  | some o=>match mW P G os n t o with
   | some t'=>some (.jB os l,fs,t')
   | none=>none
  | none=>none
 | .jB _ ((_,_::_)::_)=>none
 | .code c=>Eu P G n c fs t
 | .out .normal=>match fs with
  | .seq b::r=>some (.code b,r,t)
  | .dE _::r=>some (.out .normal,r,t)
  | _=>none
 | .out (.exit j)=>match fs with
  | .seq _::r=>some (.out (.exit j),r,t)
  | .dE id::r=>bif Nat.beq j id then some (.out .normal,r,t) else some (.out (.exit j),r,t)
  | .OF _ _::r=>some (.out (.exit j),r,t)
  | []=>none
 | .out .ret=>match fs with
  | .seq _::r=>some (.out .ret,r,t)
  | .dE _::r=>some (.out .ret,r,t)
  | .OF _ _::r=>some (.out .ret,r,t)
  | []=>none
 | .out _=>none
theorem Hn {c:Code} {c':Cf} {fs fs':List Fm} {t t':N V} (h:Eu P G n c fs t=some (c',fs',t')) (a:At P G n U Q c' fs' t'):Ev P G c n t U (QS P G n Q fs):=by
 unfold Eu at h;split at h
 ·cases h;exact ak a
 ·rename_i os;cases b:lE os.toList with
  | true=>rw[b] at h;cases h
  | false=>rw[b] at h;cases h;exact ai b a
 ·split at h
  ·rename_i d;cases h;exact aH d a
  ·rename_i d;cases h;exact aK d a
  cases h
 ·cases h;exact aN a
 ·cases h;exact aG a
 ·cases h;exact Io a
 ·cases h;exact bx a
 ·cases h;exact aB a
 cases h
theorem ze {c c':Cf} {fs fs':List Fm} {t t':N V} (h:Aw P G n c fs t=some (c',fs',t')) (a:At P G n U Q c' fs' t'):At P G n U Q c fs t:=by
 unfold Aw at h;split at h
 ·cases h;exact af a
 ·split at h
  ·rename_i d;cases h;exact td d a
  cases h
 ·cases h;exact ba a
 ·split at h
  ·rename_i e;split at h
   ·rename_i d;cases h;exact tc e d a
   cases h
  cases h
 ·cases h
 ·exact Hn h a
 ·split at h
  ·cases h;exact a
  ·cases h;exact a
  cases h
 ·rename_i j;split at h
  ·cases h;exact a
  ·rename_i id r;cases b:Nat.beq j id with
   | true=>
    rw[b] at h;cases h;have:=nB b;subst this;exact aT a
   | false=>rw[b] at h;cases h;exact sD b a
  ·cases h;exact a
  cases h
 ·split at h
  ·cases h;exact a
  ·cases h;exact a
  ·cases h;exact a
  cases h
 cases h
def iv (P:Program) (G:Cx) (n:Nat):Nat->Cf->List Fm->N V->Option (Cf×List Fm×N V)
 | 0,c,fs,t=>some (c,fs,t)
 | k+1,c,fs,t=>match Aw P G n c fs t with
  | some (c',fs',t')=>iv P G n k c' fs' t'
  | none=>none
theorem dC:∀(k:Nat) {c c':Cf} {fs fs':List Fm} {t t':N V},iv P G n k c fs t=some (c',fs',t')->At P G n U Q c' fs' t'->At P G n U Q c fs t
 | 0,_,_,_,_,_,_,h,a=>by cases h;exact a
 | k+1,_,_,_,_,_,_,h,a=>by
  unfold iv at h;split at h
  ·rename_i b;exact ze b<|dC k h a
  cases h
inductive Cd where
 | fa (s i k:Nat)
 | ag (t:Nat)
def jO (P:Program):List Cd->Bool
 | []=>true
 | .fa s i k::r=>match nV P s i with
  | some q=>bif Nat.beq q k then jO P r else false
  | none=>false
 | .ag t::r=>match dU P t with
  | some none=>jO P r
  | _=>false
def N4 (P:Program) (G:Cx) (n:Nat) (os:Array Oper) (t:N V) (o:Oper) (s i k:Nat) (x:Operand):Option (N V):=
 match bM os t o with
 | some true=>match bE G t x with
  | some (.ptr b off)=>dI t n o.dst (.ptr b (off+k))
  | _=>none
 | _=>none
def Ob (P:Program) (G:Cx) (n:Nat) (os:Array Oper) (t:N V) (o:Oper) (x:Operand) (b':Nat) (cells:List V):Option (N V×Nat):=
 match bM os t o with
 | some true=>match bE G t x with
  | some (.ptr b off)=>match nth cells off with
   | some v=>match dI t n o.dst v with
    | some t'=>some (t',b)
    | none=>none
   | none=>none
  | _=>none
 | _=>none
def OG (P:Program) (G:Cx) (n:Nat) (L:Own) (os:Array Oper) (t:N V) (o:Oper) (hs:List Nat) (cs:List Cd) (e1 e2:List Nat):Option (N V×List Nat×List Cd×List Nat×List Nat):=
 match o.op,hs with
 | .fieldAddr s x i,k::hs=>match N4 P G n os t o s i k x with
  | some t'=>some (t',hs,.fa s i k::cs,e1,e2)
  | none=>none
 | .load ty x,k::hs=>match nth L k with
  | some (b',.row cells _ _)=>match Ob P G n os t o x b' cells with
   | some (t',b)=>some (t',hs,.ag ty::cs,b::e1,b'::e2)
   | none=>none
  | _=>none
 | _,_=>none
def Qn (o:Oper):Bool:=match o.op with
 | .fieldAddr ..=>true
 | .load ..=>true
 | _=>false
def PU (os:Array Oper) (t:N V) (o:Oper):Bool:=match bM os t o with
 | some true=>Qn o
 | _=>false
def N5 (c:Cf) (t:N V):Bool:=match c with
 | .ops os (o::_)=>PU os t o
 | .jB os ((i,[])::_)=>match os[i]? with
  | some o=>PU os t o
  | none=>false
 | _=>false
def JB (P:Program) (G:Cx) (n:Nat) (L:Own) (c:Cf) (t:N V) (hs:List Nat) (cs:List Cd) (e1 e2:List Nat):Option (Cf×N V×List Nat×List Cd×List Nat×List Nat):=
 match c with
 | .ops os (o::l)=>match OG P G n L os t o hs cs e1 e2 with
  | some (t',hs,cs,e1,e2)=>some (.ops os l,t',hs,cs,e1,e2)
  | none=>none
 | .jB os ((i,[])::l)=>match os[i]? with
  | some o=>match OG P G n L os t o hs cs e1 e2 with
   | some (t',hs,cs,e1,e2)=>some (.jB os l,t',hs,cs,e1,e2)
   | none=>none
  | none=>none
 | _=>none
def og (P:Program) (G:Cx) (n:Nat) (L:Own):Nat->Cf->List Fm->N V->List Nat->List Cd->List Nat->List Nat->Option (Cf×List Fm×N V×List Cd×List Nat×List Nat)
 | 0,c,fs,t,_,cs,e1,e2=>some (c,fs,t,cs,e1,e2)
 | k+1,c,fs,t,hs,cs,e1,e2=>match N5 c t with
  | true=>match JB P G n L c t hs cs e1 e2 with
   | some (c',t',hs',cs',e1',e2')=>og P G n L k c' fs t' hs' cs' e1' e2'
   | none=>none
  | false=>match Aw P G n c fs t with
   | some (c',fs',t')=>og P G n L k c' fs' t' hs cs e1 e2
   | none=>none
theorem Kq {s i k:Nat} {r:List Cd} (h:jO P (.fa s i k::r)=true):nV P s i=some k/\jO P r=true:=by
 unfold jO at h;split at h
 ·rename_i q b;cases a:Nat.beq q k with
  | true=>rw[a] at h;exact⟨by rw[b,nB a],h⟩
  | false=>rw[a] at h;cases h
 cases h
theorem Kp {t:Nat} {r:List Cd} (h:jO P (.ag t::r)=true):dU P t=some none/\jO P r=true:=by
 unfold jO at h;split at h
 ·rename_i a;exact⟨a,h⟩
 cases h
theorem Jf {K:KP} {L:Own} (aq:J U K L) {os:Array Oper} {t t':N V} {o:Oper} {w e:List Nat} {cs cs':List Cd} {p q c d:List Nat} (h:OG P G n L os t o w cs p q=some (t',e,cs',c,d)) (r:jO P cs'=true) (he:c=d):
  (jO P cs=true/\p=q)/\bM os t o=some true/\∃v,dW P G (bE G t) U o.op= .val v U/\dI t n o.dst v=some t':=by
 unfold OG at h;split at h
 ·rename_i s x i k f g;split at h
  ·rename_i y a;cases h;obtain⟨j,l⟩:=Kq r;unfold N4 at a;split at a
   ·rename_i hw;split at a
    ·rename_i b off m;exact⟨⟨l,he⟩,hw,_,by rw[g];exact av m j,a⟩
    cases a
   cases a
  cases h
 ·rename_i ty x k f g;split at h
  ·rename_i b' cells ee ro u;split at h
   ·rename_i y b a;cases h;obtain⟨j,l⟩:=Kp r;have z:b=b':=(List.cons.inj he).1;have he':=(List.cons.inj he).2;unfold Ob at a;split at a
    ·rename_i hw;split at a
     ·rename_i b2 off m;split at a
      ·rename_i v A;split at a
       ·rename_i t2 C;cases a;subst z;rw[eF] at u;exact⟨⟨l,he'⟩,hw,v,by rw[g];exact ay m (aq.get k u) j A,C⟩
       cases a
      cases a
     cases a
    cases a
   cases h
  cases h
 cases h
theorem JC {K:KP} {L:Own} (aq:J U K L) {c c':Cf} {fs:List Fm} {t t':N V} {p d:List Nat} {cs cs':List Cd} {j k a b:List Nat} (h:JB P G n L c t p cs j k=some (c',t',d,cs',a,b)) (l:jO P cs'=true) (he:a=b) (m:At P G n U Q c' fs t'):(jO P cs=true/\j=k)/\At P G n U Q c fs t:=by
 unfold JB at h;split at h
 ·split at h
  ·rename_i e;cases h;obtain⟨f,hw,v,g,i⟩:=Jf aq e l he;exact⟨f,O hw g i m⟩
  cases h
 ·split at h
  ·rename_i o q;split at h
   ·rename_i e;cases h;obtain⟨f,hw,v,g,i⟩:=Jf aq e l he;exact⟨f,al q hw g i m⟩
   cases h
  cases h
 cases h
theorem fY {K:KP} {L:Own} (aq:J U K L):∀(k:Nat) {c c':Cf} {fs fs':List Fm} {t t':N V} {a:List Nat} {cs cs':List Cd} {j l b d:List Nat},og P G n L k c fs t a cs j l=some (c',fs',t',cs',b,d)->jO P cs'=true->b=d->At P G n U Q c' fs' t'->(jO P cs=true/\j=l)/\At P G n U Q c fs t
 | 0,_,_,_,_,_,_,_,_,_,_,_,_,_,h,e,he,f=>by cases h;exact⟨⟨e,he⟩,f⟩
 | k+1,_,_,_,_,_,_,_,_,_,_,_,_,_,h,e,he,f=>by
  unfold og at h;split at h
  ·split at h
   ·rename_i a;obtain⟨⟨g,m⟩,i⟩:=fY aq k h e he f;exact JC aq a g m i
   cases h
  split at h
  ·rename_i a;obtain⟨g,i⟩:=fY aq k h e he f;exact⟨g,ze a i⟩
  cases h
end
theorem bd.Pg {W:List Nat} {t t':N V} {w:Nat} (hw:Nat.blt w 256=true) (h:bd (w::W) t t'):bd W (t.put (t'.get w) w) t':=by
 rw[sE] at hw;obtain⟨b,c,d⟩:=h;obtain⟨s,m,l⟩:=t;rw[N.s7 _ _ _ _ hw,N.pY _ hw];refine⟨b,c,fun k a f=>?_⟩;show _=jV (pF s w _) k;rw[mF _ _ _ _ hw a];split
 ·rename_i e;rw[e]
 rename_i e;refine d k a ?_;rw[List.elem_cons,f];have:(k == w)=false:=by simpa using e
 rw[this]
def rN (o:Nat->Option V):N V->List Nat->N V
 | t,[]=>t
 | t,a::r=>rN o (t.put (o a) a) r
def yr (o:Nat->Option V):List (Nat×V)->Nat->Option V
 | [],a=>o a
 | (k,v)::r,a=>bif Nat.beq a k then some v else yr o r a
theorem zi {o:Nat->Option V}:∀{ks:List (Nat×V)},(∀e∈ks,o e.1=some e.2)->yr o ks=o
 | [],_=>rfl
 | (k,v)::r,h=>funext fun a=>by
  show(bif Nat.beq a k then some v else yr o r a)=o a;cases b:Nat.beq a k with
  | true=>rw[nB b];exact(h (k,v) (.head _)).symm
  | false=>rw[zi fun e he=>h e (.tail _ he)];rfl
def okW (W:List Nat):Bool:=W.all fun k=>Nat.blt k 256
theorem bd.fn {t':N V}:∀{W:List Nat} {t:N V},okW W=true->bd W t t'->t'=rN (fun k=>t'.get k) t W
 | [],_,_,h=>h.nil
 | a::r,t,hw,h=>by
  have hw:(Nat.blt a 256 && okW r)=true:=hw;rw[bA_] at hw;exact(bd.fn (W:=r) hw.2 (h.Pg hw.1):)
section
variable {W:List Nat} {t t':N V}
theorem bd.qs {ks:List (Nat×V)} (h:bd W t t') (a:∀e∈ks,t'.get e.1=some e.2) (hw:okW W=true):∃o,t'=rN (yr o ks) t W:=
 ⟨fun k=>t'.get k,(bd.fn hw h).trans<|congrArg (fun o=>rN o t W) (zi a).symm⟩
variable {k1 k2 k3 k4 k5 k6:Nat} {v1 v2 v3 v4 v5 v6:V} (h:bd W t t')
include h
theorem bd.q0 (hw:okW W=true):∃o,t'=rN (yr o []) t W:=h.qs (ks:=[]) (fun e he=>by cases he) hw
theorem bd.q1 (a:t'.get k1=some v1) (hw:okW W=true):∃o,t'=rN (yr o [(k1,v1)]) t W:=h.qs (fun e he=>by simp at he;subst he;exact a) hw
theorem bd.q2 (a:t'.get k1=some v1) (b:t'.get k2=some v2) (hw:okW W=true):∃o,t'=rN (yr o [(k1,v1),(k2,v2)]) t W:=h.qs (fun e he=>by simp at he;rcases he with rfl | rfl;exact a;exact b) hw
theorem bd.q3 (a:t'.get k1=some v1) (b:t'.get k2=some v2) (c:t'.get k3=some v3) (hw:okW W=true):∃o,t'=rN (yr o [(k1,v1),(k2,v2),(k3,v3)]) t W:=h.qs (fun e he=>by simp at he;rcases he with rfl | rfl | rfl;exact a;exact b;exact c) hw
theorem bd.q4 (a:t'.get k1=some v1) (b:t'.get k2=some v2) (c:t'.get k3=some v3) (d:t'.get k4=some v4) (hw:okW W=true):∃o,t'=rN (yr o [(k1,v1),(k2,v2),(k3,v3),(k4,v4)]) t W:=h.qs (fun e he=>by simp at he;rcases he with rfl | rfl | rfl | rfl;exact a;exact b;exact c;exact d) hw
theorem bd.q5 (a:t'.get k1=some v1) (b:t'.get k2=some v2) (c:t'.get k3=some v3) (d:t'.get k4=some v4) (f:t'.get k5=some v5) (hw:okW W=true):∃o,t'=rN (yr o [(k1,v1),(k2,v2),(k3,v3),(k4,v4),(k5,v5)]) t W:=h.qs (fun e he=>by simp at he;rcases he with rfl | rfl | rfl | rfl | rfl;exact a;exact b;exact c;exact d;exact f) hw
end
theorem oF {W:List Nat} {t t':N V} (h:bd W t t':=by repeat (first | with_reducible exact bd.refl _ _ | refine bd.put Z ?_)):bd W t t':=h
def Ms (i:Nat) (t:N V):List V->N V
 | []=>t
 | a::r=>Ms (i+1) (t.put (some a) i) r
theorem PS {P:Program} {G:Cx} (a:Plain G) {f:Nat} {fn:Func} {c:Code} {args:List V} {U:D} {R:V->D->Prop} (b:P.funcs[f]?=some fn) (d:fn.body=some c) (h:Ev P G c fn.ntmps (Ms 0 .leaf args) U (BB P fn R))
  (e:ry fn.ntmps args=some (Ms 0 .leaf args):=by rfl) (g:Nat.beq f KY=false:=by rfl) (i:DY f=false:=by rfl):bk P G f args U R:=bh a b d e h g i
def zp:List Nat->List (Nat×List Nat)
 | []=>[]
 | a::r=>(a,[])::zp r
def rg (a:Nat):Nat->List Nat
 | 0=>[]
 | n+1=>a::rg (a+1) n
end Go.Ev
namespace Go.Ev
variable [Env]
section
variable {P:Program} {G:Cx} {n:Nat} {U:D} {Q:Ex->N V->D->Prop} {os os2:Array Oper} {l l2:List Oper} {lp lp2:List (Nat×List Nat)} {c c2:Code} {t t2:N V} {K:KP} {L:Own} {hs:List Nat} {cs:List Cd} {e1 e2:List Nat}
theorem OH {a:Code} {b:Nat} (k:Nat) (h:iv P G n k (.code c) [] t=some (.code c2,[.dE b,.seq a],t2)) (d:Ev P G c2 n t2 U (iL b<|cN P G n a Q)):Ev P G c n t U Q:=(dC (Q:=Q) k h d:)
theorem Ps {a:Code} (k:Nat) (h:iv P G n k (.code c) [] t=some (.code c2,[.seq a],t2)) (b:Ev P G c2 n t2 U (cN P G n a Q)):Ev P G c n t U Q:=(dC (Q:=Q) k h b:)
theorem PW (k:Nat) (h:iv P G n k (.code c) [] t=some (.out .normal,[],t2)) (a:Q .normal t2 U):Ev P G c n t U Q:=(dC (Q:=Q) k h a:)
theorem Pt {a:Code} (k:Nat) (h:iv P G n k (.code c) [] t=some (.ops os2 l2,[.seq a],t2)) (b:bP P G os2 n l2 t2 U (cN P G n a Q)):Ev P G c n t U Q:=(dC (Q:=Q) k h b:)
theorem OI {a b:Code} (k:Nat) (h:iv P G n k (.code c) [] t=some (.ops os2 l2,[.seq a,.seq b],t2)) (d:bP P G os2 n l2 t2 U (cN P G n a<|cN P G n b Q)):Ev P G c n t U Q:=(dC (Q:=Q) k h d:)
theorem PX (k:Nat) (h:iv P G n k (.code c) [] t=some (.out .ret,[],t2)) (a:Q .ret t2 U):Ev P G c n t U Q:=(dC (Q:=Q) k h a:)
theorem Ok {a:Code} {b:Code} {d:Nat} (k:Nat) (h:iv P G n k (.code c) [.seq a] t=some (.code c2,[.dE d,.seq b],t2)) (e:Ev P G c2 n t2 U (iL d<|cN P G n b Q)):Ev P G c n t U (cN P G n a Q):=(dC (Q:=Q) k h e:)
theorem OJ {a:Code} {b:Code} (k:Nat) (h:iv P G n k (.code c) [.seq a] t=some (.code c2,[.seq b],t2)) (d:Ev P G c2 n t2 U (cN P G n b Q)):Ev P G c n t U (cN P G n a Q):=(dC (Q:=Q) k h d:)
theorem NO {a:Code} {b d:Code} {e:Nat} (k:Nat) (h:iv P G n k (.code c) [.seq a] t=some (.code c2,[.seq b,.dE e,.seq d],t2)) (f:Ev P G c2 n t2 U (cN P G n b<|iL e<|cN P G n d Q)):Ev P G c n t U (cN P G n a Q):=(dC (Q:=Q) k h f:)
theorem OK {a:Code} {b:Code} (k:Nat) (h:iv P G n k (.code c) [.seq a] t=some (.ops os2 l2,[.seq b],t2)) (d:bP P G os2 n l2 t2 U (cN P G n b Q)):Ev P G c n t U (cN P G n a Q):=(dC (Q:=Q) k h d:)
theorem NP {a:Code} {b d:Code} {e:Nat} (k:Nat) (h:iv P G n k (.code c) [.seq a] t=some (.ops os2 l2,[.seq b,.dE e,.seq d],t2)) (f:bP P G os2 n l2 t2 U (cN P G n b<|iL e<|cN P G n d Q)):Ev P G c n t U (cN P G n a Q):=(dC (Q:=Q) k h f:)
theorem Ol {a:Code} {b d:Code} (k:Nat) (h:iv P G n k (.code c) [.seq a] t=some (.ops os2 l2,[.seq b,.seq d],t2)) (e:bP P G os2 n l2 t2 U (cN P G n b<|cN P G n d Q)):Ev P G c n t U (cN P G n a Q):=(dC (Q:=Q) k h e:)
theorem Pu {a:Code} (k:Nat) (h:iv P G n k (.code c) [.seq a] t=some (.out .ret,[],t2)) (b:Q .ret t2 U):Ev P G c n t U (cN P G n a Q):=(dC (Q:=Q) k h b:)
theorem OL {a:Code} {b:Nat} {bI1:Nat->N V->D->Prop} {j:Nat} (k:Nat) (h:iv P G n k (.code c) [.seq a,.OF bI1 b] t=some (.out (.exit j),[],t2)) (d:Q (.exit j) t2 U):Ev P G c n t U (cN P G n a<|wV bI1 b Q):=(dC (Q:=Q) k h d:)
theorem PY (k:Nat) (h:iv P G n k (.ops os l) [] t=some (.out .normal,[],t2)) (a:Q .normal t2 U):bP P G os n l t U Q:=(dC (Q:=Q) k h a:)
theorem PZ (k:Nat) (h:iv P G n k (.ops os l) [] t=some (.ops os2 l2,[],t2)) (a:bP P G os2 n l2 t2 U Q):bP P G os n l t U Q:=(dC (Q:=Q) k h a:)
theorem Pv {a:Code} (k:Nat) (h:iv P G n k (.ops os l) [.seq a] t=some (.code c2,[],t2)) (b:Ev P G c2 n t2 U Q):bP P G os n l t U (cN P G n a Q):=(dC (Q:=Q) k h b:)
theorem OM {a:Code} {b:Nat} (k:Nat) (h:iv P G n k (.ops os l) [.seq a] t=some (.code c2,[.dE b],t2)) (d:Ev P G c2 n t2 U (iL b Q)):bP P G os n l t U (cN P G n a Q):=(dC (Q:=Q) k h d:)
theorem Om {a:Code} {b:Code} {d:Nat} (k:Nat) (h:iv P G n k (.ops os l) [.seq a] t=some (.code c2,[.dE d,.seq b],t2)) (e:Ev P G c2 n t2 U (iL d<|cN P G n b Q)):bP P G os n l t U (cN P G n a Q):=(dC (Q:=Q) k h e:)
theorem ON {a:Code} {b:Code} (k:Nat) (h:iv P G n k (.ops os l) [.seq a] t=some (.code c2,[.seq b],t2)) (d:Ev P G c2 n t2 U (cN P G n b Q)):bP P G os n l t U (cN P G n a Q):=(dC (Q:=Q) k h d:)
theorem Pw {a:Code} (k:Nat) (h:iv P G n k (.ops os l) [.seq a] t=some (.ops os2 l2,[],t2)) (b:bP P G os2 n l2 t2 U Q):bP P G os n l t U (cN P G n a Q):=(dC (Q:=Q) k h b:)
theorem OO {a:Code} {b:Code} (k:Nat) (h:iv P G n k (.ops os l) [.seq a] t=some (.ops os2 l2,[.seq b],t2)) (d:bP P G os2 n l2 t2 U (cN P G n b Q)):bP P G os n l t U (cN P G n a Q):=(dC (Q:=Q) k h d:)
theorem On {a:Code} {b d:Code} (k:Nat) (h:iv P G n k (.ops os l) [.seq a] t=some (.ops os2 l2,[.seq b,.seq d],t2)) (e:bP P G os2 n l2 t2 U (cN P G n b<|cN P G n d Q)):bP P G os n l t U (cN P G n a Q):=(dC (Q:=Q) k h e:)
theorem Px {a:Code} (k:Nat) (h:iv P G n k (.ops os l) [.seq a] t=some (.out .ret,[],t2)) (b:Q .ret t2 U):bP P G os n l t U (cN P G n a Q):=(dC (Q:=Q) k h b:)
theorem OP {a:Code} {b:Nat} (k:Nat) (h:iv P G n k (.ops os l) [.seq a,.dE b] t=some (.out .normal,[],t2)) (d:Q .normal t2 U):bP P G os n l t U (cN P G n a<|iL b Q):=(dC (Q:=Q) k h d:)
theorem Oo {a b:Code} {d:Code} (k:Nat) (h:iv P G n k (.ops os l) [.seq a,.seq b] t=some (.ops os2 l2,[.seq d],t2)) (e:bP P G os2 n l2 t2 U (cN P G n d Q)):bP P G os n l t U (cN P G n a<|cN P G n b Q):=(dC (Q:=Q) k h e:)
theorem OQ {a b:Code} (k:Nat) (h:iv P G n k (.ops os l) [.seq a,.seq b] t=some (.out .ret,[],t2)) (d:Q .ret t2 U):bP P G os n l t U (cN P G n a<|cN P G n b Q):=(dC (Q:=Q) k h d:)
theorem OR {a b:Code} {j:Nat} (k:Nat) (h:iv P G n k (.ops os l) [.seq a,.seq b] t=some (.out (.exit j),[],t2)) (d:Q (.exit j) t2 U):bP P G os n l t U (cN P G n a<|cN P G n b Q):=(dC (Q:=Q) k h d:)
theorem P0 (k:Nat) (h:iv P G n k (.jB os lp) [] t=some (.out .normal,[],t2)) (a:Q .normal t2 U):cE P G os n lp t U Q:=(dC (Q:=Q) k h a:)
theorem P1 (k:Nat) (h:iv P G n k (.jB os lp) [] t=some (.jB os2 lp2,[],t2)) (a:cE P G os2 n lp2 t2 U Q):cE P G os n lp t U Q:=(dC (Q:=Q) k h a:)
theorem Py {a:Code} (k:Nat) (h:iv P G n k (.jB os lp) [.seq a] t=some (.code c2,[],t2)) (b:Ev P G c2 n t2 U Q):cE P G os n lp t U (cN P G n a Q):=(dC (Q:=Q) k h b:)
theorem OS {a:Code} {b:Code} (k:Nat) (h:iv P G n k (.jB os lp) [.seq a] t=some (.code c2,[.seq b],t2)) (d:Ev P G c2 n t2 U (cN P G n b Q)):cE P G os n lp t U (cN P G n a Q):=(dC (Q:=Q) k h d:)
theorem Pz {a:Code} (k:Nat) (h:iv P G n k (.jB os lp) [.seq a] t=some (.out .ret,[],t2)) (b:Q .ret t2 U):cE P G os n lp t U (cN P G n a Q):=(dC (Q:=Q) k h b:)
theorem OT {a b:Code} (k:Nat) (h:iv P G n k (.jB os lp) [.seq a,.seq b] t=some (.out .ret,[],t2)) (d:Q .ret t2 U):cE P G os n lp t U (cN P G n a<|cN P G n b Q):=(dC (Q:=Q) k h d:)
theorem P2 (aq:J U K L) (k:Nat) (a:List Nat) (h:og P G n L k (.code c) [] t a [] [] []=some (.ops os2 l2,[],t2,cs,e1,e2)) (he:e1=e2) (b:bP P G os2 n l2 t2 U Q) (d:jO P cs=true:=by kernel_rfl):Ev P G c n t U Q:=((fY (Q:=Q) aq k h d he b).2:)
theorem PA {a:Code} (aq:J U K L) (k:Nat) (b:List Nat) (h:og P G n L k (.code c) [] t b [] [] []=some (.ops os2 l2,[.seq a],t2,cs,e1,e2)) (he:e1=e2) (d:bP P G os2 n l2 t2 U (cN P G n a Q)) (e:jO P cs=true:=by kernel_rfl):Ev P G c n t U Q:=((fY (Q:=Q) aq k h e he d).2:)
theorem OU {a b:Code} (aq:J U K L) (k:Nat) (d:List Nat) (h:og P G n L k (.code c) [] t d [] [] []=some (.ops os2 l2,[.seq a,.seq b],t2,cs,e1,e2)) (he:e1=e2) (e:bP P G os2 n l2 t2 U (cN P G n a<|cN P G n b Q)) (f:jO P cs=true:=by kernel_rfl):Ev P G c n t U Q:=((fY (Q:=Q) aq k h f he e).2:)
theorem Oq {a:Code} {b:Code} {d:Nat} (aq:J U K L) (k:Nat) (e:List Nat) (h:og P G n L k (.code c) [.seq a] t e [] [] []=some (.ops os2 l2,[.dE d,.seq b],t2,cs,e1,e2)) (he:e1=e2) (f:bP P G os2 n l2 t2 U (iL d<|cN P G n b Q)) (g:jO P cs=true:=by kernel_rfl):Ev P G c n t U (cN P G n a Q):=((fY (Q:=Q) aq k h g he f).2:)
theorem OV {a:Code} {b:Code} (aq:J U K L) (k:Nat) (d:List Nat) (h:og P G n L k (.code c) [.seq a] t d [] [] []=some (.ops os2 l2,[.seq b],t2,cs,e1,e2)) (he:e1=e2) (e:bP P G os2 n l2 t2 U (cN P G n b Q)) (f:jO P cs=true:=by kernel_rfl):Ev P G c n t U (cN P G n a Q):=((fY (Q:=Q) aq k h f he e).2:)
theorem NQ {a:Code} {b d:Code} {e:Nat} (aq:J U K L) (k:Nat) (f:List Nat) (h:og P G n L k (.code c) [.seq a] t f [] [] []=some (.ops os2 l2,[.seq b,.dE e,.seq d],t2,cs,e1,e2)) (he:e1=e2) (g:bP P G os2 n l2 t2 U (cN P G n b<|iL e<|cN P G n d Q)) (i:jO P cs=true:=by kernel_rfl):Ev P G c n t U (cN P G n a Q):=((fY (Q:=Q) aq k h i he g).2:)
theorem Ot {a:Code} {b d:Code} (aq:J U K L) (k:Nat) (e:List Nat) (h:og P G n L k (.code c) [.seq a] t e [] [] []=some (.ops os2 l2,[.seq b,.seq d],t2,cs,e1,e2)) (he:e1=e2) (f:bP P G os2 n l2 t2 U (cN P G n b<|cN P G n d Q)) (g:jO P cs=true:=by kernel_rfl):Ev P G c n t U (cN P G n a Q):=((fY (Q:=Q) aq k h g he f).2:)
theorem PB {a:Code} (aq:J U K L) (k:Nat) (b:List Nat) (h:og P G n L k (.code c) [.seq a] t b [] [] []=some (.out .ret,[],t2,cs,e1,e2)) (he:e1=e2) (d:Q .ret t2 U) (e:jO P cs=true:=by kernel_rfl):Ev P G c n t U (cN P G n a Q):=((fY (Q:=Q) aq k h e he d).2:)
theorem P3 (aq:J U K L) (k:Nat) (a:List Nat) (h:og P G n L k (.ops os l) [] t a [] [] []=some (.ops os2 l2,[],t2,cs,e1,e2)) (he:e1=e2) (b:bP P G os2 n l2 t2 U Q) (d:jO P cs=true:=by kernel_rfl):bP P G os n l t U Q:=((fY (Q:=Q) aq k h d he b).2:)
theorem PC {a:Code} (aq:J U K L) (k:Nat) (b:List Nat) (h:og P G n L k (.ops os l) [.seq a] t b [] [] []=some (.code c2,[],t2,cs,e1,e2)) (he:e1=e2) (d:Ev P G c2 n t2 U Q) (e:jO P cs=true:=by kernel_rfl):bP P G os n l t U (cN P G n a Q):=((fY (Q:=Q) aq k h e he d).2:)
theorem OW {a:Code} {b:Code} (aq:J U K L) (k:Nat) (d:List Nat) (h:og P G n L k (.ops os l) [.seq a] t d [] [] []=some (.code c2,[.seq b],t2,cs,e1,e2)) (he:e1=e2) (e:Ev P G c2 n t2 U (cN P G n b Q)) (f:jO P cs=true:=by kernel_rfl):bP P G os n l t U (cN P G n a Q):=((fY (Q:=Q) aq k h f he e).2:)
theorem PE {a:Code} (aq:J U K L) (k:Nat) (b:List Nat) (h:og P G n L k (.ops os l) [.seq a] t b [] [] []=some (.ops os2 l2,[],t2,cs,e1,e2)) (he:e1=e2) (d:bP P G os2 n l2 t2 U Q) (e:jO P cs=true:=by kernel_rfl):bP P G os n l t U (cN P G n a Q):=((fY (Q:=Q) aq k h e he d).2:)
theorem OX {a:Code} {b:Code} (aq:J U K L) (k:Nat) (d:List Nat) (h:og P G n L k (.ops os l) [.seq a] t d [] [] []=some (.ops os2 l2,[.seq b],t2,cs,e1,e2)) (he:e1=e2) (e:bP P G os2 n l2 t2 U (cN P G n b Q)) (f:jO P cs=true:=by kernel_rfl):bP P G os n l t U (cN P G n a Q):=((fY (Q:=Q) aq k h f he e).2:)
theorem Ou {a:Code} {b d:Code} (aq:J U K L) (k:Nat) (e:List Nat) (h:og P G n L k (.ops os l) [.seq a] t e [] [] []=some (.ops os2 l2,[.seq b,.seq d],t2,cs,e1,e2)) (he:e1=e2) (f:bP P G os2 n l2 t2 U (cN P G n b<|cN P G n d Q)) (g:jO P cs=true:=by kernel_rfl):bP P G os n l t U (cN P G n a Q):=((fY (Q:=Q) aq k h g he f).2:)
theorem PF {a:Code} (aq:J U K L) (k:Nat) (b:List Nat) (h:og P G n L k (.ops os l) [.seq a] t b [] [] []=some (.out .ret,[],t2,cs,e1,e2)) (he:e1=e2) (d:Q .ret t2 U) (e:jO P cs=true:=by kernel_rfl):bP P G os n l t U (cN P G n a Q):=((fY (Q:=Q) aq k h e he d).2:)
theorem P4 (aq:J U K L) (k:Nat) (a:List Nat) (h:og P G n L k (.jB os lp) [] t a [] [] []=some (.jB os2 lp2,[],t2,cs,e1,e2)) (he:e1=e2) (b:cE P G os2 n lp2 t2 U Q) (d:jO P cs=true:=by kernel_rfl):cE P G os n lp t U Q:=((fY (Q:=Q) aq k h d he b).2:)
end
inductive XE where
 | mk (op num:Int) (name:List Nat) (kids:List XE)
structure XI where
 kind:Int
 pc:Int
 loc:Int
 order:Int
 to:Int
 exprs:List XE
structure XC where
 aY:Int
 ins:List XI
def ey (K:KP):Nat->XE->List V->Prop
 | 0,_,_=>False
 | k+1,.mk op num name kids,vs=>∃v,vs= [.int .i64 op,.int .i64 num,.str name,v]/\bR K 4 (ey K k) kids v
def iI (K:KP) (k:Nat) (x:XI) (vs:List V):Prop:=∃v,vs= [.int .i64 x.kind,.int .i64 x.pc,.int .i64 x.loc,.int .i64 x.order,.int .i64 x.to,v]/\bR K 4 (ey K k) x.exprs v
def mY (K:KP) (k:Nat) (x:XC) (vs:List V):Prop:=∃v,vs= [.int .i64 x.aY,v]/\bR K 6 (iI K k) x.ins v
def XE.kids:XE->List XE
 | .mk _ _ _ k=>k
theorem ey.shape {K:KP} {k:Nat} {x:XE} {vs:List V} (h:ey K k x vs):∃op num name v,vs= [.int .i64 op,.int .i64 num,.str name,v]/\bR K 4 (ey K (k-1)) x.kids v:=by
 cases k with
 | zero=>cases x;exact h.elim
 | succ k=>
  obtain⟨op,num,name,kids⟩:=x;obtain⟨v,rfl,a⟩:=h;exact⟨_,_,_,v,Z,a⟩
open Classical in
def dk {α:Type} (a b:α):Bool:=decide (a=b)
theorem dc {α:Type} {a b:α}:dk a b=true↔a=b:=by unfold dk;simp
theorem mV {α:Type} {a b:α}:dk a b=false↔a≠b:=by unfold dk;simp
theorem bT {c:Bool} (h:(bif c then false else true)=true):c=false:=by cases c<;>simp_all
theorem bj {c:Bool} (h:(bif c then false else true)=false):c=true:=by cases c<;>simp_all
theorem eZ {α:Type} {l1 l2:List α} (h:I (.ofNat l1.length) (.ofNat l2.length)=false):dk l1 l2=false:=by
 rw[mV];rintro rfl;rw[dF] at h;simp at h
theorem dB {α β:Type} {l1:List α} {l2:List β} (h:I (.ofNat l1.length) (.ofNat l2.length)=true):l1.length=l2.length:=by
 rw[dF] at h;exact iJ_<|of_decide_eq_true h
theorem fA {α:Type} {l1 l2:List α} {i:Nat} {x y:α} (b:l1[i]?=some x) (a:l2[i]?=some y) (h:dk x y=false):dk l1 l2=false:=by
 rw[mV] at h⊢;rintro rfl;rw[b] at a;exact h<|Option.some.inj a
theorem ei {α:Type} {l1 l2:List α} {i:Nat} (hl:l1.length=l2.length) (hi:l1.length<=i) (h:∀k,k<i->l1[k]?=l2[k]?):dk l1 l2=true:=by
 rw[dc];refine List.ext_getElem? fun k=>?_
 by_cases a:k<i
 ·exact h k a
 rw[gN_ B,gN_ B]
theorem jH {α:Type} {l1 l2:List α} {i:Nat} {x y:α} (h:∀k,k<i->l1[k]?=l2[k]?) (b:l1[i]?=some x) (c:l2[i]?=some y) (a:dk x y=true):∀k,k<i+1->l1[k]?=l2[k]?:=fun k hk=>by
 rw[dc] at a
 by_cases e:k=i
 ·subst e;rw[b,c,a]
 exact h k B
theorem bC {a b:Nat} (h:bU (.ofNat a) (.ofNat b)=false):b<=a:=by
 rw[eP,decide_eq_false_iff_not] at h;have h:¬a<b:=fun e=>h (Int.ofNat_lt.2 e)
 omega
theorem bu {a b:Nat} (h:bU (.ofNat a) (.ofNat b)=true):a<b:=by
 rw[eP,decide_eq_true_iff] at h;exact Int.ofNat_lt.1 h
theorem cm {α:Type} {l:List α} {i:Nat} (h:i<l.length):∃x,l[i]?=some x:=⟨l[i],gC h⟩
def lq (f:XE->Int->Int):List XE->Int->Int
 | [],m=>m
 | x::r,m=>bif bU m 0 then m else lq f r (f x m)
def uH (name:List Nat) (left:Int):Int:=wr .i64 (Int.sub (wr .i64<|Int.sub left 1)<|wr .i64<|Int.tdiv (.ofNat<|cX name) 20)
def px:Nat->XE->Int->Int
 | 0,_,m=>m
 | k+1,.mk _ _ name kids,m=>lq (px k) kids (uH name m)
def wS (k:Nat) (x:XE) (most:Int):Bool:=bif bU (px k x most) 0 then false else true
def sf (k:Nat) (x:XI):Bool:=bif bU 4 (.ofNat x.exprs.length) then false else x.exprs.all fun e=>wS k e 60
def p5 (k:Nat) (most:Int) (x:XC):Bool:=bif bU most (.ofNat x.ins.length) then false else x.ins.all (sf k)
def qR (k:Nat) (most:Int) (l:List XC):Bool:=(l.take 6).all (p5 k most) && (bif bU 6 (.ofNat l.length) then false else true)
theorem GJ {f:XE->Int->Int} {l:List XE} {i:Nat} {m:Int} (h:l.length<=i):lq f (l.drop i) m=m:=by rw[List.drop_eq_nil_of_le h];rfl
theorem GI {f:XE->Int->Int} {l:List XE} {m:Int} (h:bU m 0=true):lq f l m=m:=by
 cases l with
 | nil=>rfl
 | cons x r=>show(bif bU m 0 then m else _)=m;rw[h];rfl
theorem DO {f:XE->Int->Int} {l:List XE} {i:Nat} {m:Int} {x:XE} (b:l[i]?=some x) (h:bU m 0=false):lq f (l.drop i) m=lq f (l.drop (i+1)) (f x m):=by
 have a:i<l.length:=(gA.1 b).1;rw[List.drop_eq_getElem_cons a];have:l[i]=x:=(gA.1 b).2;rw[this];show(bif bU m 0 then m else _)=_;rw[h];rfl
theorem gG {α:Type} {f:α->Bool} {l:List α} {i:Nat} {x:α} (a:l[i]?=some x) (h:f x=false):l.all f=false:=by
 rw[List.all_eq_false];exact⟨x,gB_ a,by rw[h];simp⟩
theorem Kj {α:Type} {f:α->Bool} {l:List α} {i n:Nat} {x:α} (a:l[i]?=some x) (b:i<n) (h:f x=false):(l.take n).all f=false:=gG (i:=i) (by rw[List.getElem?_take,if_pos b,a]) h
theorem eR {α:Type} {f:α->Bool} {l:List α} {i:Nat} {x:α} (a:(l.take i).all f=true) (b:l[i]?=some x) (h:f x=true):(l.take (i+1)).all f=true:=by
 rw[List.take_add_one,b,List.all_append,a];simp[h]
theorem dR {α:Type} {f:α->Bool} {l:List α} {i:Nat} (a:(l.take i).all f=true) (h:l.length<=i):l.all f=true:=by
 rw[tL_ h] at a;exact a
theorem Bb {α:Type} {f:α->Bool} {l:List α} {i n:Nat} (b:(l.take i).all f=true) (h:n<=i):(l.take n).all f=true:=by
 rw[aE_] at b⊢
 exact fun x c=>b x (by
  obtain⟨j,a⟩:=gO_ c;rw[List.getElem?_take] at a;split at a
  ·exact gB_ (i:=j) (by rw[List.getElem?_take,if_pos B,a])
  cases a)
theorem ey.beq {K:KP} {k:Nat} {x:XE} {vs:List V} (h:ey K k x vs):dX (.agg vs) (.agg vs)=true:=by
 cases k with
 | zero=>cases x;exact h.elim
 | succ k=>
  obtain⟨op,num,name,kids⟩:=x;obtain⟨v,rfl,a⟩:=h;exact gH<|bS (fL _ _)<|bS (fL _ _)<|bS (sB _)<|bS a.fD fx
theorem iI.beq {K:KP} {k:Nat} {x:XI} {vs:List V} (h:iI K k x vs):dX (.agg vs) (.agg vs)=true:=by
 obtain⟨v,rfl,a⟩:=h;exact gH<|bS (fL _ _)<|bS (fL _ _)<|bS (fL _ _)<|bS (fL _ _)<|bS (fL _ _)<|bS a.fD fx
theorem mY.beq {K:KP} {k:Nat} {x:XC} {vs:List V} (h:mY K k x vs):dX (.agg vs) (.agg vs)=true:=by
 obtain⟨v,rfl,a⟩:=h;exact gH<|bS (fL _ _)<|bS a.fD fx
theorem cL {α:Type} {l:List α} {i:Nat} (h:bU (.ofNat i) (.ofNat l.length)=true):∃x,l[i]?=some x/\i<l.length:=by
 rw[eP,decide_eq_true_iff] at h;have h:i<l.length:=Int.ofNat_lt.1 h;exact⟨l[i],gC h,h⟩
end Go.Ev
namespace Go.Ev
variable [Env]
def dy (n:Int) (vs:List V):Prop:=vs= [.int .i64 n]
def RL {α:Type} (K:KP) (m:Nat) (R:α->List V->Prop) (l:List α) (vs:List V):Prop:=∃v,vs= [v]/\bR K m R l v
theorem sI {a b:Int}:I a b=dk a b:=by rw[dF,Bool.eq_iff_iff,decide_eq_true_iff,dc]
theorem vL {α:Type} {f:α->Bool} {l:List α} {i:Nat} {x:α} (a:(l.take i).any f=false) (b:l[i]?=some x) (h:f x=false):(l.take (i+1)).any f=false:=by
 rw[List.take_add_one,b,List.any_append,a];simp[h]
theorem Dd {α:Type} {f:α->Bool} {l:List α} {i:Nat} {x:α} (a:l[i]?=some x) (h:f x=true):l.any f=true:=by
 rw[List.any_eq_true];exact⟨x,gB_ a,h⟩
theorem lO {α:Type} {f:α->Bool} {l:List α} {i:Nat} (a:(l.take i).any f=false) (h:l.length<=i):l.any f=false:=by
 rw[tL_ h] at a;exact a
def DB (xs ys:List Int):Bool:=
 List.rec (motive:=fun _=>List Int->Bool) (fun ys=>List.rec (motive:=fun _=>Bool) true (fun _ _ _=>false) ys)
  (fun x _ ih ys=>List.rec (motive:=fun _=>Bool) false (fun y r _=>bif I x y then ih r else false) ys) xs ys
theorem E9:∀(xs ys:List Int),DB xs ys=dk xs ys
 | [],[]=>by rw[show DB [] []=true from Z,eq_comm,dc]
 | [],_::_=>by rw[show DB [] (_::_)=false from Z,eq_comm,mV];simp
 | _::_,[]=>by rw[show DB (_::_) []=false from Z,eq_comm,mV];simp
 | x::xs,y::ys=>by
  show(bif I x y then DB xs ys else false)=_;rw[E9 xs ys,dF,Bool.eq_iff_iff,dc]
  by_cases h:x=y
  ·subst h;simp[dc]
  simp[h]
def ints (xs:List Int):List V:=xs.map (.int .i64)
def II:Option TypeDesc->Bool
 | some (.int .i64)=>true
 | _=>false
def tP (P:Program) (fs:List Field):Nat->Bool:=List.rec (motive:=fun _=>Nat->Bool) (fun _=>true) (fun f _ ih k=>II (P.underlying f.type) && (Nat.beq f.offset k && ih (k+1))) fs
def jL (P:Program) (t:TypeId) (n:Nat):Bool:=
 match structOf P t with
 | some fs=>tP P fs.toList 0 && (Nat.beq fs.toList.length n && (!P.eqGuardType P.depth t && (!P.stoodInHeld t && kU fs.toList)))
 | none=>false
theorem rF {P:Program}:∀(fs:List Field) (k:Nat) (xs ys:List Int),tP P fs k=true->xs.length=k+fs.length->ys.length=k+fs.length->eqFields P fs (ints xs) (ints ys)=some (DB (xs.drop k)<|ys.drop k)
 | [],k,xs,ys,_,c,d=>by
  rw[List.drop_eq_nil_of_le (by simp at c;omega),List.drop_eq_nil_of_le (by simp at d;omega)];rfl
 | f::fs,k,xs,ys,h,c,d=>by
  have h':(II (P.underlying f.type) && (Nat.beq f.offset k && tP P fs (k+1)))=true:=h;simp only[bA_] at h';obtain⟨g,l,n⟩:=h';have i:f.offset=k:=nB l
  have hu:P.underlying f.type=some (.int .i64):=by
   unfold II at g;split at g
   ·assumption
   cases g
  have l1:k<xs.length:=by simp at c;omega
  have l2:k<ys.length:=by simp at d;omega
  have n1:nth (ints xs) f.offset=some (.int .i64 xs[k]):=by rw[eF,i,ints,gM_,gC l1];rfl
  have o:nth (ints ys) f.offset=some (.int .i64 ys[k]):=by rw[eF,i,ints,gM_,gC l2];rfl
  have ih:=rF fs (k+1) xs ys n (by simp at c⊢;omega) (by simp at d⊢;omega)
  show(match P.underlying f.type,nth (ints xs) f.offset,nth (ints ys) f.offset with
   | some .bool,some (.bool a),some (.bool b)=>bif (bif a then b else(bif b then false else true)) then eqFields P fs (ints xs) (ints ys) else some false
   | some (.int _),some (.int j a),some (.int k b)=>bif r9 j k then(bif I a b then eqFields P fs (ints xs) (ints ys) else some false) else none
   | some .string,some (.str a),some (.str b)=>bif gL a b then eqFields P fs (ints xs) (ints ys) else some false
   | some (.struct gs),_,_=>_
   | some (.array m e),_,_=>_
   | _,_,_=>none)=_
  rw[hu,n1,o,List.drop_eq_getElem_cons l1,List.drop_eq_getElem_cons l2,ih];show(bif I xs[k] ys[k] then _ else some false)=some (bif I xs[k] ys[k] then DB (xs.drop (k+1)) (ys.drop (k+1)) else false);cases I xs[k] ys[k]<;>rfl
theorem wi {P:Program} {t:TypeId} {n:Nat} {xs ys:List Int} (h:jL P t n=true) (hx:xs.length=n) (hy:ys.length=n):DA P t (.agg<|ints xs) (.agg<|ints ys)=some (dk xs ys):=by
 unfold jL at h;split at h
 ·rename_i fs a;simp only[bA_,Bool.not_eq_true'] at h;obtain⟨b,c,d,e,f⟩:=h;have hn:fs.toList.length=n:=nB c;unfold DA;dsimp only;rw[a];dsimp only;rw[d,e,f];simp only[Bool.not_true,Bool.or_false,cond_false];rw[rF fs.toList 0 xs ys b B B,List.drop_zero,List.drop_zero,E9]
 cases h
section
variable {P:Program} {G:Cx} {ev:Operand->Option V} {U:D}
theorem J2 {t r:TypeId} {x y:Operand} {n:Nat} {ca cb:List Int} (h:jL P t n=true) (a:ca.length=n) (b:cb.length=n) (c:ev x=some (.agg<|ints ca)) (d:ev y=some (.agg<|ints cb)):dW P G ev U (.binOp .eql t x y r)= .val (.bool<|dk ca cb) U:=by
 refine az c d ?_;show nc P .eql t _ _=_;unfold nc;dsimp only;rw[wi h a b]
theorem zw {t r:TypeId} {x y:Operand} {n:Nat} {ca cb:List Int} (h:jL P t n=true) (a:ca.length=n) (b:cb.length=n) (c:ev x=some (.agg<|ints ca)) (d:ev y=some (.agg<|ints cb)):dW P G ev U (.binOp .neq t x y r)= .val (.bool (bif dk ca cb then false else true)) U:=by
 refine az c d ?_;show nc P .neq t _ _=_;unfold nc;dsimp only;rw[wi h a b]
end
structure dw where
 ia:Int
 index:Int
structure db where
 kind:Int
 loc:Int
 order:Int
 read:Int
 write:Int
structure XG where
 init:List Int
 threads:List (List db)
 from_:List (List dw)
 order:List (List dw)
def dw.ints (x:dw):List Int:=[x.ia,x.index]
def db.ints (x:db):List Int:=[x.kind,x.loc,x.order,x.read,x.write]
theorem dw.same {x y:dw}:dk x.ints y.ints=dk x y:=by
 rw[Bool.eq_iff_iff,dc,dc];cases x;cases y;simp[dw.ints]
theorem db.same {x y:db}:dk x.ints y.ints=dk x y:=by
 rw[Bool.eq_iff_iff,dc,dc];cases x;cases y;simp[db.ints]
def iV (x:dw) (vs:List V):Prop:=vs=ints x.ints
def iU (x:db) (vs:List V):Prop:=vs=ints x.ints
structure eN (K:KP) (g:XG) (a b c d:V):Prop where
 init:bR K 1 dy g.init a
 threads:bR K 1 (RL K 5 iU) g.threads b
 from_:bR K 1 (RL K 2 iV) g.from_ c
 order:bR K 1 (RL K 2 iV) g.order d
theorem nk {a b:XG}:dk a b=(dk a.init b.init && (dk a.threads b.threads && (dk a.from_ b.from_ && dk a.order b.order))):=by
 rw[Bool.eq_iff_iff,dc];cases a;cases b;simp[dc]
def dD (e:db):Bool:=bif I e.kind 1 then true else I e.kind 3
def bq (e:db):Bool:=bif I e.kind 2 then true else I e.kind 3
def aX (b:Bool):Bool:=bif b then false else true
def bW (e:db) (n:Int):Bool:=
 bif bU e.kind 1 then false else bif bU 4 e.kind then false else bif bU e.order 1 then false else bif bU 6 e.order then false else
 bif (bif (!dD e) then aX (I e.read 0) else false) then false else bif (bif (!bq e) then aX (I e.write 0) else false) then false else
 bif I e.kind 4 then I e.loc 0 else bif aX (bU e.loc 0) then bU e.loc n else false
def fh (g:XG) (id:dw):Option db:=
 match id.ia,id.index with
 | .ofNat 0,.ofNat i=>(g.init[i]?).map fun v=>⟨2,i,1,0,v⟩
 | .ofNat (t+1),.ofNat i=>(g.threads[t]?).bind (·[i]?)
 | _,_=>none
def AP (x:Option db):db:=x.getD ⟨0,0,0,0,0⟩
theorem tL {g:XG} {th ix:Int} (h:bU th 0=true):fh g ⟨th,ix⟩=none:=by
 rw[eP,decide_eq_true_iff] at h;cases th with
 | ofNat t=>exact absurd h (by simp)
 | negSucc t=>rfl
theorem qI {g:XG} {th ix:Int} (h:bU ix 0=true):fh g ⟨th,ix⟩=none:=by
 rw[eP,decide_eq_true_iff] at h;cases ix with
 | ofNat t=>exact absurd h (by simp)
 | negSucc t=>cases th with
  | ofNat n=>cases n<;>rfl
  | negSucc n=>rfl
theorem BD {g:XG} {th ix:Int} (h:bU (.ofNat g.threads.length) th=true):fh g ⟨th,ix⟩=none:=by
 rw[eP,decide_eq_true_iff] at h;cases th with
 | negSucc t=>rfl
 | ofNat t=>
  have h:g.threads.length<t:=Int.ofNat_lt.1 h;cases t with
  | zero=>omega
  | succ t=>
   cases ix with
   | negSucc n=>rfl
   | ofNat n=>
    show(g.threads[t]?).bind _=none;rw[gN_ B];rfl
theorem iQ {n:Int} (h:bU n 0=false):∃m:Nat,n= .ofNat m:=by
 rw[eP,decide_eq_false_iff_not] at h;cases n with
 | ofNat m=>exact⟨m,Z⟩
 | negSucc m=>exact absurd (Int.negSucc_lt_zero m) h
theorem FR {n:Nat} (h:I (.ofNat n) 0=false):∃m:Nat,n=m+1:=by
 cases n with
 | zero=>cases h
 | succ m=>exact⟨m,Z⟩
theorem ej {t:Nat} (h:t<=9223372036854775807):wr .i64 (Int.sub (.ofNat (t+1)) 1)= .ofNat t:=by
 have e:Int.sub (.ofNat (t+1)) 1= .ofNat t:=by
  show((t+1:Nat):Int)-1=(t:Int);omega
 rw[e];show(bif Nat.ble t 9223372036854775807 then _ else _)=_;rw[show Nat.ble t 9223372036854775807=true by rw[nE_];exact h];rfl
theorem mK {a b:Nat} (h:bU (.ofNat a) (.ofNat b)=false):b<=a:=bC h
theorem n8 {a b:Nat} (h:(bif bU (.ofNat a) (.ofNat b) then false else true)=false):a<b:=bu (bj h)
theorem nZ {a b:Nat} (h:(bif bU (.ofNat a) (.ofNat b) then false else true)=true):b<=a:=bC (bT h)
section
variable {P:Program} {G:Cx} {n:Nat} {t:N V} {U:D} {Q:Ex->N V->D->Prop}
theorem Al {fn:Func} {j k ty b m e:Nat} {ro:Bool} {cells:List V} {v:V} (c:fn.results.toList= [.cell j ty,.tmp k]) (d:t.get j=some (.ptr b 0)) (hm:U.m.get b=some (.row cells e ro)) (f:dU P ty=some (some m)) (a:cells.length=m) (g:t.get k=some v):fm P fn t U=some (.tuple [.agg cells,v]):=by
 unfold fm;rw[c]
 have h:g9 P t U (.cell j ty)=some (V.agg cells):=by
  show(match t.get (posOf j) with
   | some (.ptr b off)=>match U.m.get b with
    | some (.row cells _ _)=>match dU P ty with
     | some (some n)=>bif Nat.ble (off+n) (cX cells) then some (V.agg<|takeN (dS cells off) n) else none
     | some none=>nth cells off
     | none=>none
    | _=>none
   | _=>none)=_
  rw[show t.get (posOf j)=some (.ptr b 0) from d];dsimp only;rw[hm];dsimp only;rw[f];dsimp only;rw[bK,a,nA_,show Nat.ble m m=true by rw[nE_];exact nR_ _,du,dO,List.drop_zero,<-a,List.take_length];rfl
 have i:g9 P t U (.tmp k)=some v:=g
 have:cW (g9 P t U) [.cell j ty,.tmp k]=some [V.agg cells,v]:=by
  unfold cW;simp only[h,i]
 rw[this]
theorem br {fn:Func} {R:V->D->Prop} {j k ty b m e:Nat} {ro:Bool} {cells:List V} {v:V} (a:fn.results.toList= [.cell j ty,.tmp k]) (c:t.get j=some (.ptr b 0)) (hm:U.m.get b=some (.row cells e ro)) (d:dU P ty=some (some m)) (f:cells.length=m) (g:t.get k=some v) (h:R (.tuple [.agg cells,v]) U):BB P fn R .ret t U:=
 ⟨.inr Z,_,Al a c hm d f g,h⟩
end
end Go.Ev
namespace Go.Ev
variable [Env]
def dJ (g:XG) (id from_:dw):Bool:=
 bif !dD (AP<|fh g id) then dk [from_.ia,from_.index] [0,0] else
 bif (fh g from_).isSome then
  bif (bif dk [from_.ia,from_.index] [id.ia,id.index] then false else true) then
   bif bq (AP<|fh g from_) then
    bif I (AP<|fh g from_).loc (AP<|fh g id).loc then I (AP<|fh g from_).write (AP<|fh g id).read else false
   else false
  else false
 else false
def eK (g:XG):Bool:=bif bU 4 (.ofNat g.threads.length) then true else bif bU 6 (.ofNat g.init.length) then true else g.threads.any fun l=>bU 14 (.ofNat l.length)
abbrev LM:=List (List Int×Int)
inductive ft (n:Nat):List fC->LM->Prop
 | nil:ft n [] []
 | cons {e:fC} {k:List Int} {v:Int} {es:List fC} {m:LM}:k.length=n->e.key= .agg (ints k)->e.val= .int .i64 v->ft n es m->ft n (e::es) ((k,v)::m)
def p7:LM->List Int->Nat->Option (Nat×Int)
 | [],_,_=>none
 | (k',v)::m,k,i=>bif dk k k' then some (i,v) else p7 m k (i+1)
def gg (m:LM) (k:List Int):Option Int:=(p7 m k 0).map (·.2)
def p8 (m:LM) (k:List Int) (v:Int):LM:=
 match p7 m k 0 with
 | some (i,_)=>m.set i (k,v)
 | none=>m++[(k,v)]
def lK (m:LM) (k:List Int):LM:=
 match p7 m k 0 with
 | some (i,_)=>m.eraseIdx i
 | none=>m
theorem ft.length {n:Nat} {es:List fC} {m:LM} (h:ft n es m):es.length=m.length:=by
 induction h with
 | nil=>rfl
 | cons _ _ _ _ ih=>simp[ih]
theorem ft.set {n:Nat} {es:List fC} {m:LM} (h:ft n es m) {e:fC} {k:List Int} {v:Int} (f:k.length=n) (g:e.key= .agg (ints k)) (j:e.val= .int .i64 v):∀i,ft n (es.set i e) (m.set i (k,v)):=by
 induction h with
 | nil=>intro i;exact .nil
 | cons a b c d ih=>
  intro i;cases i with
  | zero=>exact .cons f g j d
  | succ i=>exact .cons a b c (ih i)
theorem ft.snoc {n:Nat} {es:List fC} {m:LM} (h:ft n es m) {e:fC} {k:List Int} {v:Int} (f:k.length=n) (g:e.key= .agg (ints k)) (i:e.val= .int .i64 v):ft n (es++[e]) (m++[(k,v)]):=by
 induction h with
 | nil=>exact .cons f g i .nil
 | cons a b c d ih=>exact .cons a b c ih
theorem ft.erase {n:Nat} {es:List fC} {m:LM} (h:ft n es m):∀i,ft n (es.eraseIdx i) (m.eraseIdx i):=by
 induction h with
 | nil=>intro i;exact .nil
 | cons a b c d ih=>
  intro i;cases i with
  | zero=>exact d
  | succ i=>exact .cons a b c (ih i)
theorem ft.at {n:Nat} {es:List fC} {m:LM} (h:ft n es m):∀{i:Nat} {k:List Int} {v:Int},m[i]?=some (k,v)->∃e,es[i]?=some e/\k.length=n/\e.key= .agg (ints k):=by
 induction h with
 | nil=>intro i k v f;simp at f
 | cons a b c d ih=>
  intro i k v f;cases i with
  | zero=>simp at f;obtain⟨rfl,rfl⟩:=f;exact⟨_,Z,a,b⟩
  | succ i=>simpa using ih (by simpa using f)
theorem wb:∀(es:List fC) (i:Nat),wa es i=es.eraseIdx i
 | [],_=>rfl
 | _::_,0=>rfl
 | e::es,i+1=>by
  show e::wa es i=e::es.eraseIdx i;rw[wb es i]
theorem qS:∀{m:LM} {k:List Int} {i j:Nat} {v:Int},p7 m k i=some (j,v)->i<=j/\m[j-i]?=some (k,v)
 | [],k,i,j,v,h=>by cases h
 | (k',v')::m,k,i,j,v,h=>by
  have h':(bif dk k k' then some (i,v') else p7 m k (i+1))=some (j,v):=h;cases a:dk k k' with
  | true=>
   rw[a] at h';cases h';rw[dc] at a;subst a;simp
  | false=>
   rw[a] at h';obtain⟨h1,b⟩:=qS h';refine⟨by omega,?_⟩;rw[show j-i=j-(i+1)+1 by omega];simpa using b
theorem rB:∀(xs:List Int),pL (ints xs) (ints xs)=true
 | []=>rfl
 | x::xs=>by
  have e:sa (.int .i64 x) (.int .i64 x)=some true:=by
   show(bif r9 .i64 .i64 then some (I x x) else none)=some true;rw[dF];simp[r9]
  show(match sa (.int .i64 x) (.int .i64 x) with | some true=>pL (ints xs) (ints xs) | _=>false)=true;rw[e];exact rB xs
section
variable {P:Program}
theorem wu {t:TypeId} {fs:Array Field} {n:Nat} (hu:P.underlying t=some (.struct fs)) (f:jL P t n=true) {k:List Int} (g:k.length=n) {es:List fC} {m:LM} (h:ft n es m):∀i,pr P t (.agg<|ints k) es i=some ((p7 m k i).map fun x=>(x.1,.int .i64 x.2)):=by
 induction h with
 | nil=>intro i;rfl
 | @cons e k' v es m a b c d ih=>
  intro i
  have j:py P t (.agg<|ints k) e.key=some (dk k k'):=by
   unfold py;rw[hu,b];exact wi f g a
  show(match py P t (.agg<|ints k) e.key with
   | some true=>some (some (i,e.val))
   | some false=>pr P t (.agg<|ints k) es (i+1)
   | none=>none)=some (Option.map _ (bif dk k k' then some (i,v) else p7 m k (i+1)))
  rw[j];cases dk k k' with
  | true=>rw[c];rfl
  | false=>exact ih (i+1)
structure C4 (P:Program) (t kt et:TypeId) (n:Nat):Prop where
 ty:P.underlying t=some (.map kt et)
 plain:plainKey P kt=true
 ints:jL P kt n=true
 zero:fB P et=some (.int .i64 0)
 shape:∀k:List Int,k.length=n->mI P kt (.agg<|Go.Ev.ints k)=true
theorem lI {t:TypeId} {n:Nat} (h:jL P t n=true):∃fs,P.underlying t=some (.struct fs):=by
 unfold jL at h;split at h
 ·rename_i fs a;unfold structOf at a;rw[ow] at a;split at a
  ·rename_i fs' hu;exact⟨_,hu⟩
  cases a
 cases h
variable {G:Cx} {ev:Operand->Option V} {U:D}
theorem J5 {t kt et:TypeId} {n:Nat} (a:C4 P t kt et n) {b:Nat} {es:List fC} {ck:Nat} {m:LM} (hm:ft n es m) (f:U.m.get b=some (.map es ck)) {mo ko xo:Operand} {k:List Int} {v:Int} (c:k.length=n) (g:ev mo=some (.map b)) (h:ev ko=some (.agg<|ints k)) (j:ev xo=some (.int .i64 v)):
  ∃es' ck',dW P G ev U (.mapUpdate t mo ko xo)= .skip (U.setObj b (.map es' ck'))/\ft n es' (p8 m k v):=by
 obtain⟨fs,hu⟩:=lI a.ints;have hf:=wu hu a.ints c hm 0
 have key:∃es' ck',nq P U t (.map b) (.agg<|ints k) (.int .i64 v)=some (U.setObj b (.map es' ck'))/\ft n es' (p8 m k v):=by
  unfold nq p8;rw[a.ty];dsimp only;rw[f];dsimp only;rw[a.plain,a.shape k c];simp only[Bool.and_self,cond_true];rw[hf];cases p:p7 m k 0 with
  | none=>exact⟨_,_,Z,by rw[dV];exact hm.snoc c Z Z⟩
  | some x=>
   obtain⟨i,v0⟩:=x;have hi:=(qS p).2;rw[Nat.sub_zero] at hi;obtain⟨e,he,_,d⟩:=hm.at hi;simp only[Option.map_some];rw[eF,he];dsimp only;have q:sameKey e.key (.agg<|ints k)=true:=by rw[d];exact rB k
   rw[q];exact⟨_,_,Z,by unfold Aq;rw[ud];exact hm.set (e:={key:=.agg<|ints k,val:=.int .i64 v,born:=e.born}) c Z Z i⟩
 obtain⟨es',ck',r,s⟩:=key;refine⟨es',ck',kZ Z ?_,s⟩;simp only[gz,g,h,j,r]
theorem J4 {t kt et:TypeId} {n:Nat} (a:C4 P t kt et n) {b:Nat} {es:List fC} {ck:Nat} {m:LM} (hm:ft n es m) (d:U.m.get b=some (.map es ck)) {mo ko:Operand} {k:List Int} (c:k.length=n) (e:ev mo=some (.map b)) (f:ev ko=some (.agg<|ints k)):
  dW P G ev U (.lookup t mo ko true)= .val (.tuple [.int .i64 ((gg m k).getD 0),.bool (gg m k).isSome]) U:=by
 obtain⟨fs,hu⟩:=lI a.ints;have hf:=wu hu a.ints c hm 0;refine AN Z ?_;simp only[gW,a.ty,f,e,d,a.plain,a.shape k c,Bool.and_self,cond_true,hf,a.zero];unfold gg;cases p7 m k 0 with
 | none=>rfl
 | some x=>rfl
theorem J1 {c:Call} {t kt et:TypeId} {n:Nat} (a:C4 P t kt et n) {b:Nat} {es:List fC} {ck:Nat} {m:LM} (hm:ft n es m) (f:U.m.get b=some (.map es ck)) {mo ko:Operand} {k:List Int} (d:k.length=n) (e:c.callee= .builtin .delete) (g:c.argTypes[0]?=some t) (h:c.args.toList= [mo,ko]) (j:ev mo=some (.map b)) (p:ev ko=some (.agg<|ints k)):
  ∃es',dW P G ev U (.call c)= .val (.tuple []) (U.setObj b (.map es' ck))/\ft n es' (lK m k):=by
 obtain⟨fs,hu⟩:=lI a.ints;have hf:=wu hu a.ints d hm 0
 have key:∃es',qH P U c.argTypes (.map b) (.agg<|ints k)=some (U.setObj b (.map es' ck))/\ft n es' (lK m k):=by
  unfold qH lK;rw[g];dsimp only;rw[a.ty];dsimp only;rw[f];dsimp only;rw[a.plain,a.shape k d];simp only[Bool.and_self,cond_true];rw[hf];cases hl:p7 m k 0 with
  | none=>exact⟨_,Z,hm⟩
  | some x=>
   obtain⟨i,v0⟩:=x;exact⟨_,Z,by rw[wb];exact hm.erase i⟩
 obtain⟨es',q,r⟩:=key;refine⟨es',kZ (by simp[kindOf,e]) ?_,r⟩
 have he:tN ev [mo,ko]=some [.map b,.agg<|ints k]:=by
  unfold tN cW;simp only[j,p]
 simp only[gz,e,h,he,q]
theorem J3 {c:Call} {t kt et:TypeId} {n:Nat} (a:C4 P t kt et n) {b:Nat} {es:List fC} {ck:Nat} {m:LM} (hm:ft n es m) (f:U.m.get b=some (.map es ck)) {mo:Operand} (d:c.callee= .builtin .len) (e:c.argTypes[0]?=some t) (g:c.args.toList= [mo]) (h:ev mo=some (.map b)):
  dW P G ev U (.call c)= .val (.int .i64 (.ofNat m.length)) U:=by
 refine AN (by simp[kindOf,d,isMap,e,a.ty]) ?_;simp only[gW,d,e,g,a.ty,h,f,bK,hm.length]
end
section
variable {P:Program} {G:Cx} {n:Nat} {t:N V} {U:D} {K:KP} {L:Own} {Q:Ex->N V->D->Prop} {ops:Array Oper} {o:Oper} {l:List Oper}
theorem Od (a:J U K L) {t':Nat->N V} (hw:bM ops t o=some true) (c:dW P G (bE G t) U o.op= .val (.map U.next) (U.alloc (.map [] 0))) (d:∀b,dI t n o.dst (.map b)=some (t' b))
  (h:∀(U':D) (b:Nat),J U' K ((b,.map [] 0)::L)->bP P G ops n l (t' b) U' Q):bP P G ops n (o::l) t U Q:=
 O hw c (d _) (h _ _<|a.alloc _)
theorem Hz {ev:Operand->Option V} {ty:TypeId}:dW P G ev U (.makeMap ty none)= .val (.map U.next) (U.alloc (.map [] 0)):=by
 exact tz (op:=.makeMap ty none) (mk:=.map) (ob:=.map [] 0) Z Z
theorem G8 {ty kt et:TypeId} {kn:Nat} (c:C4 P ty kt et kn) {b:Nat} {es:List fC} {ck:Nat} {m:LM} {x:Nat×cG} (hm:ft kn es m) (a:J U K (x::(b,.map es ck)::L)) {mo ko xo:Operand} {k:List Int} {v:Int} {t':N V} (d:k.length=kn) (hw:bM ops t o=some true) (e:o.op= .mapUpdate ty mo ko xo)
  (f:bE G t mo=some (.map b)) (g:bE G t ko=some (.agg<|ints k)) (i:bE G t xo=some (.int .i64 v)) (j:dI t n o.dst unit=some t')
  (h:∀U' es' ck',J U' K (x::(b,.map es' ck')::L)->ft kn es' (p8 m k v)->bP P G ops n l t' U' Q):bP P G ops n (o::l) t U Q:=by
 obtain⟨es',ck',p,q⟩:=J5 (G:=G) c hm (a.get 1 Z) d f g i;exact iO hw (by rw[e];exact p) j<|h _ _ _ (a.Lr _) q
theorem G7 {c:Call} {ty kt et:TypeId} {kn:Nat} (d:C4 P ty kt et kn) {b:Nat} {es:List fC} {ck:Nat} {m:LM} {x:Nat×cG} (hm:ft kn es m) (a:J U K (x::(b,.map es ck)::L)) {mo ko:Operand} {k:List Int} {t':N V} (e:k.length=kn) (hw:bM ops t o=some true) (f:o.op= .call c)
  (g:c.callee= .builtin .delete) (i:c.argTypes[0]?=some ty) (j:c.args.toList= [mo,ko]) (p:bE G t mo=some (.map b)) (q:bE G t ko=some (.agg<|ints k)) (r:dI t n o.dst (.tuple [])=some t')
  (h:∀U' es',J U' K (x::(b,.map es' ck)::L)->ft kn es' (lK m k)->bP P G ops n l t' U' Q):bP P G ops n (o::l) t U Q:=by
 obtain⟨es',s,u⟩:=J1 (G:=G) d hm (a.get 1 Z) e g i j p q;exact O hw (by rw[f];exact s) r<|h _ _ (a.Lr _) u
end
end Go.Ev
namespace Go.Ev
variable [Env]
def wL (t:Nat) (m:LM) (n:Nat) (e:db):LM:=bif bq e then p8 m [.ofNat (t+1),.ofNat n] e.loc else m
def rm (t:Nat):List db->Nat->LM->LM
 | [],_,m=>m
 | e::l,n,m=>rm t l (n+1) (wL t m n e)
def pD:List (List db)->Nat->LM->LM
 | [],_,m=>m
 | l::r,t,m=>pD r (t+1) (rm t l 0 m)
def lQ (loc:Nat):List dw->LM->Option LM
 | [],m=>some m
 | id::l,m=>bif (gg m id.ints).isSome then(bif I ((gg m id.ints).getD 0) (.ofNat loc) then lQ loc l (lK m id.ints) else none) else none
def nw:List (List dw)->Nat->LM->Option LM
 | [],_,m=>some m
 | l::r,loc,m=>(lQ loc l m).bind (nw r (loc+1))
def eB (g:XG):Bool:=
 match nw g.order 0 (pD g.threads 0 []) with
 | some m=>I (.ofNat m.length) 0
 | none=>false
theorem cR {α:Type} {l:List α} {i:Nat} {x:α} (h:l[i]?=some x):l.drop i=x::l.drop (i+1):=by
 obtain⟨a,b⟩:=gA.1 h;rw[List.drop_eq_getElem_cons a,b]
theorem fO {α:Type} {l:List α} {i:Nat} (h:l.length<=i):l.drop i= []:=List.drop_eq_nil_of_le h
end Go.Ev
namespace Go.Ev
theorem kA {b:Bool} (h:(!b)=true):b=false:=by cases b<;>simp_all
theorem eV {b:Bool} (h:(!b)=false):b=true:=by cases b<;>simp_all
end Go.Ev
namespace Go.Ev
variable [Env]
def tS {α:Type} (p:α->Bool):List α->Nat->Int
 | [],_=>-1
 | x::r,i=>bif p x then .ofNat i else tS p r (i+1)
theorem wK {α:Type} {p:α->Bool}:∀(l:List α) (i:Nat),(bif bU (tS p l i) 0 then false else true)=l.any p
 | [],_=>rfl
 | x::r,i=>by
  show(bif bU (bif p x then .ofNat i else tS p r (i+1)) 0 then false else true)=_;rw[List.any_cons];cases p x with
  | true=>rfl
  | false=>exact wK r (i+1)
def yf (g:XG) (t n:Nat) (e:db) (f:dw):Bool:=bif bW e (.ofNat g.init.length) then dJ g ⟨.ofNat (t+1),.ofNat n⟩ f else false
def qo (g:XG) (t:Nat):List db->List dw->Nat->Bool
 | e::l,f::q,n=>bif yf g t n e f then qo g t l q (n+1) else false
 | [],_,_=>true
 | _::_,[],_=>false
def lu (g:XG):List (List db)->List (List dw)->Nat->Bool
 | l::r,f::q,t=>bif I (.ofNat f.length) (.ofNat l.length) then(bif qo g t l f 0 then lu g r q (t+1) else false) else false
 | [],_,_=>true
 | _::_,[],_=>false
def cd (g:XG):Int:=
 bif eK g then 3 else bif I (.ofNat g.from_.length) (.ofNat g.threads.length) then(bif I (.ofNat g.order.length) (.ofNat g.init.length) then(bif lu g g.threads g.from_ 0 then(bif eB g then 0 else 2) else 2) else 2) else 2
end Go.Ev
end
