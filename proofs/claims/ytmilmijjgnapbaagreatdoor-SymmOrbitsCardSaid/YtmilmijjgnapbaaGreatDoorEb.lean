/- Part of the proof: an evaluator of the model's code, rules for walks on it, walks. Without conditions. -/
import Derived.Test.YtmilmijjgnapbaaGreatDoorEa
import Derived.RecoverIn
import Derived.TacticsIn
import Derived.OrdersIn
import Derived.Sort.LoopGhostIn
import Derived.Scope
import Derived.ProofKit
import Derived.LaidSub
import Derived.KernelRfl
set_option linter.unusedSectionVars false
set_option linter.unusedVariables false
set_option linter.unusedSimpArgs false
noncomputable section
namespace Go.Ev
variable [Env]
theorem ub {p q:Pos} (h:dH.beqP p q=true):p=q:=nB h
theorem JP {c d:nj} (h:dH.beqC c d=true):c=d:=by
 unfold dH.beqC at h
 grind [nB]
theorem Eb {x y:Y} (h:dH.na x y=true):x=y:=by
 unfold dH.na at h;split at h
 ·grind
 ·rw[bA_,cR,decide_eq_true_eq] at h;rw[nD h.1,h.2]
 ·rw[qC,decide_eq_true_eq] at h;rw[h]
 ·rfl
 ·simp_all
 ·rw[bA_] at h;rw[ub h.1,nB h.2]
 ·rfl
 ·simp only[bA_] at h;grind [ub,nB,JP]
 ·rfl
 ·rw[ub h]
 ·rfl
 ·rfl
 ·simp_all
 ·simp only[bA_] at h;grind [nB,ub]
 cases h
theorem ua:∀{xs ys:List Y},dH.beqL xs ys=true->xs=ys
 | [],[],_=>rfl
 | [],_::_,h=>by cases h
 | _::_,[],h=>by cases h
 | x::xs,y::ys,h=>by
  have h':(bif dH.na x y then dH.beqL xs ys else false)=true:=h;rw[a6] at h';split at h'
  ·rename_i hb;rw[Eb hb,ua h']
  cases h'
theorem JO {x y:Y} (h:dH x y=true):x=y:=by
 unfold dH at h;split at h
 ·rw[ua h]
 exact Eb h
theorem Dg (E:Nat->TypeId) {l:List (Nat×List Y)} {b:Nat} {o:bU} (h:(H4 l E).get b=some o):∃x∈l,x.1=b/\o= .row x.2 (E x.1) true:=by
 have key:∀(l:List (Nat×List Y)) (m:D bU),(l.foldl (fun m x=>m.put (some (.row x.2 (E x.1) true)) (posOf x.1)) m).get b=some o->(∃x∈l,x.1=b/\o= .row x.2 (E x.1) true)∨m.get b=some o:=by
  intro l;induction l with
  | nil=>simp_all
  | cons x l ih=>
   intro m h;rcases ih _ h with ⟨y,h1,h2⟩ | h
   ·grind
   rw[D.jU] at h
   grind
 rcases key l _ h with h | h
 ·exact h
 rw[D.iq] at h;cases h
section
variable {P:Program} {G:Cx} {O:Ren} {V:B} {w:World}
theorem Inv.putObj (hi:Inv O V w) {b:Pos} {l:Loc} {o o':bU} {x:Obj} (hb:V.m.get b=some o) (hl:O b=some l) (u:o.ro=false) (d:o'.ro=false) (A:fm O l o' x):
  Inv O (V.setObj b o') (w.putObj l.cH x)/\dY O V w O (V.setObj b o') (w.putObj l.cH x):=by
 have hlt:=hi.cH b l hl;exact hi.change hb hl u d (World.putObj_heap_same hlt) A (fun r C=>World.putObj_heap_other C) (by simp) Z Z ⟨Z,nR_ _⟩
theorem Bp (d:∀g,G.ov g=true->r7 P g) {ev:Operand->Option Y} {f:Operand->Value} {o:Oper} {r:HR} (hi:Inv O V w) (b:ER O ev f o.op) (h:dq P G ev V o.op=r) (hne:∀n,r≠ .err n):wY P O V w r ((execOp f o).run P w):=by
 subst h;unfold dq at hne⊢;cases hk:kindOf P o.op with
 | pure=>
  rw[hk] at hne;dsimp only at hne⊢;cases hp:cS P ev o.op with
  | none=>simp_all
  | some v=>
   obtain⟨x,hx,hv⟩:=wh (P:=P) (w:=w) b hp;rw[hx];exact .val hv hi<|dY.refl O V w
 | read=>
  rw[hk] at hne;dsimp only at hne⊢;cases hp:eE P ev V o.op with
  | none=>simp_all
  | some v=>
   obtain⟨x,hx,hv⟩:=wk (P:=P) hi b hp;rw[hx];exact .val hv hi<|dY.refl O V w
 | alloc=>
  rw[hk] at hne;dsimp only at hne⊢;cases hp:eF P ev o.op with
  | none=>simp_all
  | some p=>
   obtain⟨ob,mk⟩:=p;obtain⟨x,ob',n,hx,aa,m,hv⟩:=s9 (P:=P) (w:=w) b hp;obtain⟨inv,st⟩:=hi.alloc (l:=⟨w.heap.size,0,n⟩) Z m;rw[hx];exact .val (hv _ _<|Ren.bQ _ _ _) inv st
 | jv=>
  rw[hk] at hne;exact AT d hi b Z hne
theorem tC {ev:Operand->Option Y} {o:Oper} (hne:∀n,dq P G ev V o.op≠ .err n) (c:Call):o.op≠ .defer c:=by
 intro e;rw[e] at hne;exact hne 16 Z
def Lr (O:Ren):Md->FrameMode->Prop
 | .ret,u=>u= .returning
 | .iP v,u=>∃x,u= .panicking [{v:=x,recovered:=false}]/\VR O v x
 | .Pb v,u=>∃x,u= .panicking [{v:=x,recovered:=true}]/\VR O v x
theorem Lr.mono {O O':Ren} (h:O.le O'):∀{md:Md} {u:FrameMode},Lr O md u->Lr O' md u
 | .ret,_,h'=>h'
 | .iP _,_,⟨x,h1,b⟩=>⟨x,h1,VR.mono h _ _ b⟩
 | .Pb _,_,⟨x,h1,b⟩=>⟨x,h1,VR.mono h _ _ b⟩
theorem Lr.Kj {O:Ren}:∀{md:Md} {u:FrameMode},Lr O md u->u≠ .run
 | .ret,u,h=>by have h:u= .returning:=h;subst h;simp
 | .iP v,u,⟨x,h1,b⟩=>by subst h1;simp
 | .Pb v,u,⟨x,h1,b⟩=>by subst h1;simp
theorem nL {ih:iK} (M:Sound P G ih) {fn:Func} {m:Nat} {tmps:Array Value} {R:Ending->World->Prop}:∀(d:List DE) (ds:List Deferred) (md:Md) (V:B) (A:Md) (C:B) (O:Ren) (w:World) (u:FrameMode),sC P G ih d md V=some (A,C)->DR O d ds->Inv O V w->GR O G->Lr O md u->
  (∀(O':Ren) (w':World) (u':FrameMode),Inv O' C w'->dY O V w O' C w'->Lr O' A u'->LeavesIn Fence.wide m P fn tmps R [] u' w')->LeavesInM Fence.wide m P fn tmps R ds u w
 | [],ds,md,V,A,C,O,w,u,h,hd,hi,F,hm,hk=>by
  have h':some (md,V)=some (A,C):=h;cases h';have:ds= []:=hd;subst this;exact hk O w u hi (dY.refl O V w) hm
 | .mark b::d,ds,md,V,A,C,O,w,u,h,hd,hi,F,hm,hk=>by
  obtain⟨l,r,hl,rfl,I⟩:=hd
  have h':(match V.m.get b with
    | some .mark=>sC P G ih d md (V.setObj b .dead)
    | _=>none)=some (A,C):=h
  cases hb:V.m.get b with
  | none=>rw[hb] at h';cases h'
  | some o=>
   rw[hb] at h';cases o with
   | mark=>
    dsimp only at h';obtain⟨x,hx,K⟩:=hi.obj b _ l hb hl;have E:x= .deferred (some []):=K;subst E;obtain⟨inv,st⟩:=hi.putObj (o':=.dead) (x:=.deferred none) hb hl Z Z trivial;refine⟨hm.Kj,.inl ⟨l.cH,w.putObj l.cH (.deferred none),Z,run_takeDeferred hx,?_⟩⟩;exact nL M d r md _ A C O _ u h' I inv F hm fun O' w' u' L st'=>hk O' w' u' L (st.trans st')
   | _=>cases h'
 | .call _ _ _::_,ds,md,V,A,C,O,w,u,h,hd,hi,F,hm,hk=>by cases h
theorem si {ih:iK} (F:Sound P G ih) {fn:Func} {m n:Nat} {t:D Y} {d:List DE} {md:Md} {r:KR} {a:Act} {u:FrameMode} {R:Ending->World->Prop} (h:w4 P G ih fn md t d V=r) (hne:∀n,r≠ .err n) (hi:Inv O V w) (I:GR O G) (M:TR O t n a.tmps) (hd:DR O d a.defers) (hm:Lr O md u)
  (K:∀(O':Ren) (w':World) (E:Ending),Inv O' r.heap w'->dY O V w O' r.heap w'->NB O' r E->R E w'):LeavesInM Fence.wide m P fn a.tmps R a.defers u w:=by
 unfold w4 at h;cases hl:sC P G ih d md V with
 | none=>grind
 | some q=>
  obtain⟨C,Q⟩:=q;rw[hl] at h;cases C with
  | ret=>
   dsimp only at h;cases L:dB P fn t Q with
   | none=>grind
   | some v=>
    rw[L] at h;subst h;refine nL F d a.defers md V _ _ O w u hl hd hi I hm fun O' w' u' A st' b=>?_
    have b:u'= .returning:=b;subst b;obtain⟨x,hx,hv⟩:=xi (P:=P) A (M.mono<|st'.le hi) L;exact⟨x,hx,K O' w' _ A st' ⟨x,Z,hv⟩⟩
  | iP v=>
   dsimp only at h;subst h;refine nL F d a.defers md V _ _ O w u hl hd hi I hm fun O' w' u' A st' b=>?_
   obtain⟨x,rfl,hv⟩:=b;exact K O' w' _ A st' ⟨x,Z,hv⟩
  | Pb v=>grind
theorem xr {ih:iK} (C:Sound P G ih) {f:Nat} {args:List Y} {xs:Array Value} {r:KR} (h:kS P G ih f args V=r) (hne:∀n,r≠ .err n) (hi:Inv O V w) (F:GR O G) (hx:cA O args xs.toList)
  (rl:Option Nat) (m:Nat) {R:Ending->World->Prop} (I:∀(O':Ren) (w':World) (E:Ending),Inv O' r.heap w'->dY O V w O' r.heap w'->NB O' r E->R E w'):CallsIn (jT rl) m P f xs w R:=by
 refine qD rl ?_;unfold kS at h;cases hf:P.funcs[f]? with
 | none=>grind
 | some fn=>
 rw[hf] at h;dsimp only at h;cases hb:fn.body with
 | none=>grind
 | some c=>
 cases K:pL fn.ntmps args with
 | none=>grind
 | some t=>
 rw[hb,K] at h;dsimp only at h;refine callsIn_of_wp_marks hf hb trivial ?_;have ht:=CI K hx;cases L:ih c t fn.ntmps [] none V with
 | err k=>grind
 | ok e t' d' M=>
  rw[L] at h;have hcode:=fun(Q:Exit->Act->World->Prop) T=>C.run c t fn.ntmps [] none V e t' d' M L O w {tmps:=xs++Array.replicate (fn.ntmps-xs.size) undef,defers:=[]} none m Q hi F ht Z trivial T
  cases e with
  | normal=>
   refine hcode _ fun O' w' a' d st u A E b=>?_
   have b:E= .normal:=b;subst b;exact si C h hne d (F.mono<|st.le hi) u A (md:=.ret) Z fun ρ₂ w₂ E i₂ s₂ b=>I ρ₂ w₂ E i₂ (st.trans s₂) b
  | ret=>
   refine hcode _ fun O' w' a' d st u A E b=>?_
   have b:E= .ret:=b;subst b;exact si C h hne d (F.mono<|st.le hi) u A (md:=.ret) Z fun ρ₂ w₂ E i₂ s₂ b=>I ρ₂ w₂ E i₂ (st.trans s₂) b
  | iP v=>
   refine hcode _ fun O' w' a' d st u A E b=>?_
   obtain⟨x,rfl,hv⟩:=b;exact si C h hne d (F.mono<|st.le hi) u A (md:=.iP v) ⟨x,Z,hv⟩ fun ρ₂ w₂ E i₂ s₂ b=>I ρ₂ w₂ E i₂ (st.trans s₂) b
  | exit i=>grind
  | goto i=>grind
theorem kT {ih:iK} (b:Sound P G ih) {f:Nat} {args:List Y} {xs:Array Value} {V':B} {v:Y} (h:kS P G ih f args V= .ret v V') (hi:Inv O V w) (d:GR O G) (hx:cA O args xs.toList)
  (rl:Option Nat) (m:Nat) {R:Ending->World->Prop} (u:∀(O':Ren) (w':World) (x:Value),Inv O' V' w'->dY O V w O' V' w'->VR O' v x->R (.returned x) w'):CallsIn (jT rl) m P f xs w R:=
 xr b h (fun n h=>by cases h) hi d hx rl m fun O' w' E i s ⟨x,A,hv⟩=>by subst A;exact u O' w' x i s hv
theorem l6 {O O':Ren} {v:Y} {x:Value} (h:pW v=true) (hv:VR O v x):VR O' v x:=by
 cases v<;>first | (simp[pW] at h;done) | (simp only[VR] at hv⊢;exact hv)
theorem qS {v:Y} {l:List Y} (h:eH (v::l)=true):pW v=true/\eH l=true:=by
 have h':(bif pW v then eH l else false)=true:=h
 simp_all
theorem jq:∀{l:List Y},eH l=true->∀v∈l,pW v=true
 | [],_,v,hv=>by cases hv
 | x::l,h,v,hv=>by
  obtain⟨h1,b⟩:=qS h;rcases mQ_.1 hv with rfl | hv
  ·exact h1
  exact jq b v hv
theorem s5 {O O':Ren}:∀{vs:List Y} {xs:List Value},eH vs=true->cA O vs xs->cA O' vs xs
 | [],xs,_,h=>by rw[h.dE];exact cA.nil
 | v::vs,xs,h,hv=>by
  obtain⟨h1,b⟩:=qS h;obtain⟨x,r,rfl,d,h4⟩:=hv.cons_inv;exact cA.cons (l6 h1 d)<|s5 b h4
theorem FI {x y:Y} (h:zd x y=true):x=y:=by
 unfold zd at h;split at h
 ·grind
 ·rw[bA_,cR,decide_eq_true_eq] at h;rw[nD h.1,h.2]
 ·rw[qC,decide_eq_true_eq] at h;rw[h]
 ·rfl
 ·rfl
 ·rfl
 ·rfl
 ·rfl
 cases h
theorem mB:∀{xs ys:List Y},oG xs ys=true->xs=ys
 | [],[],_=>rfl
 | [],_::_,h=>by cases h
 | _::_,[],h=>by cases h
 | x::xs,y::ys,h=>by
  have h':(bif zd x y then oG xs ys else false)=true:=h;rw[a6] at h';split at h'
  ·rename_i hb;rw[FI hb,mB h']
  cases h'
theorem wu (v:Y):∀(n:Nat),EX n v=List.replicate n v
 | 0=>rfl
 | n+1=>by show v::EX n v=_;rw[wu v n,List.replicate_succ]
theorem gi.inv {w w':World} (hk:gi w w') (hi:Inv O V w):Inv O V w'/\dY O V w O V w':=
 hi.of ⟨⟨hi.fresh,fun b l hb=>Nat.lt_of_lt_of_le (hi.cH b l hb) hk.size,fun b o l hb hl=>let ⟨x,hx,d⟩:=hi.obj b o l hb hl;⟨x,by rw[hk.same _<|hi.cH b l hl];exact hx,d⟩,hi.inj⟩,
  ⟨fun _ _=>Z,nR_ _,hk.size,fun r m _=>hk.same r m,fun _ h _=>h,hk.tape,hk.os,hk.out⟩⟩
theorem Ew {b vb:Pos} {o o':bU} (x:Pos):(eL V b o vb o').m.get x=if x=vb then some o' else if x=b then some o else none:=by
 unfold eL;rw[D.jU,D.jU,D.iq]
theorem KQ (hi:Inv O V w) {b vb:Pos} {o o₁ o':bU} {l:Loc} (hb:V.m.get b=some o) (aa:V.m.get vb=some o') (hl:O b=some l) (ab:o.ro=o₁.ro)
  (ho:∀x,fm O l o x->fm O l o₁ x):Inv O (eL V b o₁ vb o') w:=by
 have back:∀x q,(eL V b o₁ vb o').m.get x=some q->∃q',V.m.get x=some q'/\q.ro=q'.ro/\((x=b/\q=o₁)∨q=q'):=fun x q h=>by
  rw[Ew] at h
  grind
 refine⟨⟨fun x hx=>⟨(hi.fresh x hx).1,?_⟩,hi.cH,fun x q lx hx d=>?_,fun x y q r lx ly hx hy d u he hne=>?_⟩,hi.mb.size,hi.mb.same,fun r E ⟨x,q,l',h1,A,C,h4⟩=>?_⟩
 ·cases hq:(eL V b o₁ vb o').m.get x with
  | none=>rfl
  | some q=>
   obtain⟨q',h',_⟩:=back x q hq;rw[(hi.fresh x hx).2] at h';cases h'
 ·obtain⟨q',h',_,h''⟩:=back x q hx;obtain⟨y,hy,E⟩:=hi.obj x q' lx h' d
  grind
 ·obtain⟨q',h1,A,_⟩:=back x q hx;obtain⟨r',C,h4,_⟩:=back y r hy;rw[A,h4];exact hi.inj x y q' r' lx ly h1 C d u he hne
 obtain⟨q',h5,F,_⟩:=back x q h1;exact hi.mb.no r E ⟨x,q',l',h5,by rw[<-F];exact A,C,h4⟩
theorem FW (hi:Inv O V w) {b vb:Pos} {cells cells' vc:List Y} {e ve:Nat} {l lv:Loc} (hb:V.m.get b=some (.row cells e false)) (K:V.m.get vb=some (.row vc ve false)) (Q:O b=some l) (u:O vb=some lv)
  (hne:b≠vb) {ρ₁:Ren} {R:B} {w₁:World} (i₁:Inv ρ₁ R w₁) (s₁:dY O (eL V b (.row cells' e false) vb (.row vc ve false)) w ρ₁ R w₁) {b₁:Pos} {l₁:Loc} {cs₁:List Y} {o₁ k:Nat}
  (g₁:R.m.get b₁=some (.row cs₁ e false)) (hl₁:ρ₁ b₁=some l₁) (gv:R.m.get vb=some (.row vc ve false)) (hne₁:b₁≠vb) (am:eH vc=true) (hk:o₁+k<=cs₁.length) (an:eH ((cs₁.drop o₁).take k)=true):
  yF (O.with V.next ⟨l₁.cH,l₁.sh+o₁,l₁.cells-o₁⟩) ((V.drop b).alloc (.row ((cs₁.drop o₁).take k) e false)) w₁/\
   dY O V w (O.with V.next ⟨l₁.cH,l₁.sh+o₁,l₁.cells-o₁⟩) ((V.drop b).alloc (.row ((cs₁.drop o₁).take k) e false)) w₁:=by
 have hle:=hi.uu ⟨l₁.cH,l₁.sh+o₁,l₁.cells-o₁⟩;have L:((V.drop b).alloc (.row ((cs₁.drop o₁).take k) e false)).m.get V.next=some (.row ((cs₁.drop o₁).take k) e false):=D.cN _ _ _
 have ac:∀x,x≠V.next->((V.drop b).alloc (.row ((cs₁.drop o₁).take k) e false)).m.get x=if x=b then none else V.m.get x:=fun x hx=>by
  show((V.m.put none b).put _ V.next).get x=_;rw[D.cK _ _ _ _ hx,D.jU]
 have mb:∀x q,x≠V.next->((V.drop b).alloc (.row ((cs₁.drop o₁).take k) e false)).m.get x=some q->x≠b/\V.m.get x=some q:=fun x q hx h=>by
  simp_all
 have hold:∀x lx,x≠V.next->(O.with V.next ⟨l₁.cH,l₁.sh+o₁,l₁.cells-o₁⟩) x=some lx->O x=some lx:=fun x lx hx h=>by rwa[Ren.dt O _ hx] at h
 have W:∀x:Pos,x.num<V.next.num->x≠V.next:=fun x hx e=>by simp_all
 have T:∀r,Wr O (eL V b (.row cells' e false) vb (.row vc ve false)) r->r=l.cH∨r=lv.cH:=fun r ⟨x,q,lx,h1,F,C,h4⟩=>by
  rw[Ew] at h1
  grind
 have wrs:∀r,Wr O (eL V b (.row cells' e false) vb (.row vc ve false)) r->Wr O V r:=fun r h=>by
  rcases T r h with rfl | rfl
  ·exact⟨b,_,l,hb,Z,Q,Z⟩
  exact⟨vb,_,lv,K,Z,u,Z⟩
 have away:∀x q lx,x≠b->x≠vb->V.m.get x=some q->O x=some lx->lx.cH≠l.cH/\lx.cH≠lv.cH:=fun x q lx h1 F C h4=>by
  constructor
  ·intro he;have:=(hi.inj x b q _ lx l C hb h4 Q he h1).2;simp[bU.ro] at this
  intro he;have:=(hi.inj x vb q _ lx lv C K h4 u he F).2;simp[bU.ro] at this
 have ak:∀x q lx,x≠b->V.m.get x=some q->O x=some lx->lx.cH≠l₁.cH:=fun x q lx h1 C h4 he=>by
  have hlt:=hi.cH x lx h4;have hw:Wr ρ₁ R lx.cH:=⟨b₁,_,l₁,g₁,Z,hl₁,he.symm⟩
  by_cases F:x=vb
  ·subst F;rw[u] at h4;cases h4;have E:ρ₁ x=some lv:=s₁.ext x (hi.Dp u) |>.trans u;have:=(i₁.inj b₁ x _ _ l₁ lv g₁ gv hl₁ E he.symm hne₁).1;simp[bU.ro] at this
  obtain⟨a1,a2⟩:=away x q lx h1 F C h4;rcases T _ (s₁.wr _ hw hlt) with h | h
  ·exact a1 h
  exact a2 h
 have flatObj:∀{l':Loc} {c:List Y} {e':Nat} {y:Obj} {ρa ρb:Ren},eH c=true->fm ρa l' (.row c e' false) y->fm ρb l' (.row c e' false) y:=fun hc ho=>by
  obtain⟨c',fr,h1,F,C,h4,h5⟩:=ho;exact⟨c',fr,h1,F,C,fun i v hv=>let ⟨z,hz,X⟩:=h4 i v hv;⟨z,hz,l6 (jq hc v<|gB_ hv) X⟩,h5⟩
 constructor
 ·refine⟨fun x hx=>?_,fun x lx d=>?_,fun x q lx hx d=>?_,fun x y q r lx ly hx hy d aa he U=>?_⟩
  ·have I:V.next.num+1<=x.num:=by simpa [B.alloc,B.drop,Pos.gp] using hx
   have A:x≠V.next:=fun e=>by subst e;omega
   have hf:=hi.fresh x oM
   grind [Ren.dt]
  ·by_cases A:x=V.next
   ·subst A;rw[Ren.bQ] at d;cases d;exact i₁.cH b₁ l₁ hl₁
   exact Nat.lt_of_lt_of_le (hi.cH x lx<|hold x lx A d) s₁.size
  ·by_cases A:x=V.next
   ·subst A;rw[L] at hx;rw[Ren.bQ] at d;cases hx;cases d;obtain⟨c,fr,h1,F,C,h4,h5⟩:=i₁.row g₁ hl₁;refine⟨_,h1,c,fr,Z,?_,?_,fun i v hv=>?_,fun _ j hj=>h5 Z j (by grind)⟩
    ·grind
    ·grind
    grind [l6,jq]
   obtain⟨ao,I⟩:=mb x q A hx;have hlx':=hold x lx A d
   by_cases ab:x=vb
   ·subst ab;rw[K] at I;cases I;rw[u] at hlx';cases hlx';have E:ρ₁ x=some lv:=(s₁.ext x<|hi.Dp u).trans u;obtain⟨y,hy,M⟩:=i₁.obj x _ lv gv E
    grind
   obtain⟨y,hy,M⟩:=hi.obj x q lx I hlx';refine⟨y,?_,M.mono hle⟩;rw[s₁.frame _ (hi.cH x lx hlx') (fun h=>?_)]
   ·exact hy
   grind
  by_cases e1:x=V.next<;>by_cases e2:y=V.next
  ·simp_all
  ·grind [Ren.bQ]
  ·grind [Ren.bQ]
  exact hi.inj x y q r lx ly (mb x q e1 hx).2 (mb y r e2 hy).2 (hold x lx e1 d) (hold y ly e2 aa) he U
 refine⟨fun x hx=>Ren.dt O _ (W x hx),by simp[B.alloc,B.drop,Pos.gp],s₁.size,fun r M hn=>s₁.frame r M fun h=>hn (wrs r h),?_,s₁.tape,s₁.os,s₁.out⟩;rintro r ⟨x,q,lx,h1,F,C,rfl⟩ M
 by_cases e1:x=V.next
 ·subst e1;rw[Ren.bQ] at C;cases C;exact wrs _ (s₁.wr _ ⟨b₁,_,l₁,g₁,Z,hl₁,Z⟩ M)
 exact⟨x,q,lx,(mb x q e1 h1).2,F,hold x lx e1 C,Z⟩
theorem Dd (hi:Inv O V w) {b vb:Pos} {cells cells' vc:List Y} {e ve:Nat} {l lv:Loc} (hb:V.m.get b=some (.row cells e false)) (u:V.m.get vb=some (.row vc ve false)) (A:O b=some l) (C:O vb=some lv)
  (hne:b≠vb) {ρ₁:Ren} {d:B} {w₁:World} (i₁:Inv ρ₁ d w₁) (s₁:dY O (eL V b (.row cells' e false) vb (.row vc ve false)) w ρ₁ d w₁) {b₁:Pos} {l₁:Loc} {cs₁:List Y} {o₁ k:Nat}
  (g₁:d.m.get b₁=some (.row cs₁ e false)) (hl₁:ρ₁ b₁=some l₁) (gv:d.m.get vb=some (.row vc ve false)) (hne₁:b₁≠vb) (E:eH vc=true) (hk:o₁+k<=cs₁.length) (F:eH ((cs₁.drop o₁).take k)=true):
  Inv (O.with V.next ⟨l₁.cH,l₁.sh+o₁,l₁.cells-o₁⟩) ((V.drop b).alloc (.row ((cs₁.drop o₁).take k) e false)) w₁/\
   dY O V w (O.with V.next ⟨l₁.cH,l₁.sh+o₁,l₁.cells-o₁⟩) ((V.drop b).alloc (.row ((cs₁.drop o₁).take k) e false)) w₁:=hi.of (FW hi hb u A C hne i₁ s₁ g₁ hl₁ gv hne₁ E hk F)
theorem Dn {r:KR} {v:Y} {V':B} (h:sG r= .ret v V'):r= .ret v V':=by
 unfold sG at h
 grind
theorem Dm (r:KR) (v:Y) (V':B):sG r≠ .iP v V':=by
 unfold sG
 grind
theorem C7 {ih:iK} (hS:Sound P G ih) {f:Nat} {args:List Y} {xs:Array Value} {V':B} {v:Y} (h:HL P G ih f args V= .ret v V') (hi:Inv O V w) (hg:GR O G) (hx:cA O args xs.toList)
  (rl:Option Nat) (m:Nat) {R:Ending->World->Prop} (X:∀(O':Ren) (w':World) (x:Value),Inv O' V' w'->dY O V w O' V' w'->VR O' v x->R (.returned x) w'):CallsIn (jT rl) m P f xs w R:=by
 unfold HL at h;split at h
 ·rename_i b off n sz i vb voff q mc;split at h
  ·rename_i cells e vc ve hb K;rw[a6] at h;split at h
   ·rename_i hc;simp only[bA_,nE_,Nat.beq_eq,bN] at hc;obtain⟨hne,a5,ab,a9,ac,hlen⟩:=hc;subst ab;have L:b≠vb:=fun e=>by subst e;rw[mO] at hne;simp at hne
    split at h
    ·rename_i u r1 n2 r2 ak am;rw[a6] at h;split at h
     ·rename_i hq;rw[bA_] at hq;have en:=nB hq.1;have er:=mB hq.2;subst en;subst er;cases h;obtain⟨x1,rr,e1,hs,an⟩:=hx.cons_inv;obtain⟨x2,rr',rfl,bb,ao⟩:=an.cons_inv;obtain⟨x3,rr'',rfl,ap,aq⟩:=ao.cons_inv;have:=aq.dE;subst this;simp only[VR] at hs;obtain⟨l,hl,hd⟩:=hs
      have au:∃c,x1= .slice (some ⟨l.cH,l.sh+off,none⟩) n c/\n<=c/\off+c*sz=l.cells:=by
       grind
      obtain⟨c,rfl,bd,aa⟩:=au;have hvv':=ap;simp only[VR] at hvv';obtain⟨lv,av,_⟩:=hvv'
      have go:∀(cells':List Y) (cap:nj) (okc:nj->Nat->Bool),(∀x,fm O l (.row cells e false) x->fm O l (.row cells' e false) x)->
        uf vb vc ve e sz (kS P G ih f [.slice b off n cap,i,.slice vb voff 1 (.known mc)]<|eL V b (.row cells' e false) vb (.row vc ve false)) okc=some (u,r1)->
        VR O (.slice b off n cap) (.slice (some ⟨l.cH,l.sh+off,none⟩) n c)->
        (∀C A E u l1 F x,okc C u=true->1<=u->F A=some l1->VR F (.slice A E u C) x->∃c',x= .slice (some ⟨l1.cH,l1.sh+E,none⟩) u c'/\u<=c'/\E+c'*sz=l1.cells)->
        CallsIn (jT rl) m P f xs w R:=by
       intro cells' cap okc M d a4 aE;unfold uf at d;split at d
       ·rename_i A E be C σ1 I;split at d
        ·rename_i bi bk bl bm g1 gv;rw[a6] at d;split at d
         ·rename_i Q;simp only[bA_,nE_,Nat.beq_eq,bN] at Q;obtain⟨k1,k2,k3,k4,k5,k6,k7,k8⟩:=Q;cases d;have T:A≠vb:=fun e=>by subst e;rw[mO] at k2;simp at k2
          have ev:=mB k3;subst ev;subst k4;subst k5;have hiL:=KQ hi (o₁:=.row cells' e false) hb K hl Z M;refine kT hS I hiL hg ?_ rl m fun F w1 x i1 s1 U=>?_
          ·grind [cA.cons]
          obtain⟨l1,W⟩:∃l1,F A=some l1:=by
           cases C<;>simp only[VR] at U
           ·grind
           ·grind
           grind
          obtain⟨c',rfl,a0,bo⟩:=aE C A E u l1 F x k1 k6 W U;rw[cV,di] at k8 X;obtain⟨iJ,sJ⟩:=Dd (k:=u*sz) hi hb K hl av L i1 s1 g1 W gv T ac k7 k8;refine X _ w1 _ iJ sJ ?_;simp only[VR];refine⟨_,Ren.bQ _ _ _,.inl ⟨c',Z,a0,?_⟩⟩
          grind
         cases d
        cases d
       cases d
      by_cases a1:c=n
      ·subst a1;refine go cells (.known c) (Dc sz) (fun _ h=>h) ak (by simp only[VR];simp_all) fun C A E u l1 F x h1 h2 h3 h4=>?_
       unfold Dc at h1
       grind [nB,VR]
      have a2:n+1<=c:=by omega
      refine go (fD (takeN cells (off+n*sz))<|EX sz .any) (.least (Nat.succ n) sz) (zk sz) (fun x ho=>?_) am (by simp only[VR];simp_all) fun C A E u l1 F x h1 h2 h3 h4=>?_
      ·obtain⟨cc,fr,h1,h2,h3,h4,h5⟩:=ho;have hmul:(n+1)*sz<=c*sz:=nM_ _ a2;have bs:(n+1)*sz=n*sz+sz:=Nat.succ_mul n sz;refine⟨cc,fr,h1,h2,?_,fun j v hv=>?_,h5⟩
       ·rw[dv,cV,wu,lA_,lT_,List.length_replicate];omega
       rw[dv,cV,wu] at hv
       by_cases hj:j<off+n*sz
       ·grind
       have a3:j<(cells.take (off+n*sz)++List.replicate sz Y.any).length:=(gA.1 hv).1;rw[lA_,lT_,List.length_replicate] at a3;rw[gR_ (by simp_all),List.getElem?_replicate] at hv;split at hv
       ·cases hv;have:l.sh+j<cc.size:=by omega
        exact⟨cc[l.sh+j],aG_ this,by simp only[VR]⟩
       cases hv
      unfold zk at h1;split at h1
      ·rename_i a s;rw[bA_,nE_] at h1
       grind [nB,VR]
      cases h1
     cases h
    cases h
   cases h
  cases h
 exact kT hS h hi hg hx rl m X
theorem GR.size (hi:Inv O V w) (b:GR O G):G.gl<=w.heap.size:=by
 cases aa:G.gl with
 | zero=>exact Nat.zero_le _
 | succ g=>
  obtain⟨c,d⟩:=b g oM;have:=hi.cH _ _ d;exact this
theorem rj (hi:Inv O V w) (A:GR O G):∀(l:List (Nat×List Y)),sB G.gl V l=true->∀x∈l,r6 w x
 | [],_,x,hx=>by cases hx
 | y::l,h,x,hx=>by
  have h':(bif Nat.ble (Nat.succ y.1) G.gl then(match V.m.get y.1 with
   | some (.row cells _ true)=>bif eH y.2 then(bif oG cells y.2 then sB G.gl V l else false) else false
   | _=>false) else false)=true:=h
  rw[a6] at h';split at h'
  ·rename_i b;rw[nE_] at b;split at h'
   ·rename_i cells e hb;rw[a6] at h';split at h'
    ·rename_i hf;rw[a6] at h';split at h'
     ·rename_i he;have:=mB he;subst this;rcases mQ_.1 hx with rfl | hx
      ·obtain⟨cn,C⟩:=A x.1 b;obtain⟨c,fr,h1,E,F,h4,_⟩:=hi.row hb C;have d:c.size=cn:=by simpa using E
       have u:x.2.length<=cn:=F;refine⟨c,e,fr,h1,by rw[d];exact u,fun i v hv=>?_⟩;obtain⟨z,hz,aa⟩:=h4 i v hv;simp only[nA_] at hz
       grind [l6,jq]
      exact rj hi A l h' x hx
     cases h'
    cases h'
   cases h'
  cases h'
theorem qz {ih:iK} (d:Sound P G ih) {f:Nat} {args:List Y} {xs:Array Value} {V':B} {v:Y} (h:js P G ih f args V= .ret v V') (hi:Inv O V w) (b:GR O G) (hx:cA O args xs.toList)
  (rl:Option Nat) (m:Nat) {R:Ending->World->Prop} (A:∀(O':Ren) (w':World) (x:Value),Inv O' V' w'->dY O V w O' V' w'->VR O' v x->R (.returned x) w'):CallsIn (jT rl) m P f xs w R:=by
 unfold js at h;cases hk:G.w9 f args V with
 | some u=>
  rw[hk] at h;obtain⟨uv,us⟩:=u;dsimp only at h;cases h;refine qD rl<|callsIn_wide.2 ?_;refine(d.cx.w9 f args V v V' hk O w xs hi b hx).mono fun e w' ⟨x,O',he,hv,i',s'⟩=>?_
  subst he;exact A O' w' x i' s' hv
 | none=>
 rw[hk] at h;dsimp only at h;cases C:G.Jg f args with
 | some u=>
  rw[C] at h;dsimp only at h;rw[a6] at h;split at h
  ·rename_i hf;simp only[bA_] at hf;obtain⟨E,F,I⟩:=hf;cases h;refine qD rl<|callsIn_wide.2 ?_;refine(d.cx.Jg f args v C w xs (GR.size hi b) ⟨hi.mb.size,hi.mb.same⟩ (rj hi b _ I)<|s5 E hx).mono fun e w' ⟨x,he,hv,hk⟩=>?_
   subst he;obtain⟨i',s'⟩:=hk.inv hi;exact A O w' x i' s'<|l6 F hv
  cases h
 | none=>
  rw[C] at h;dsimp only at h;split at h
  ·cases h
  rw[a6] at h;split at h
  ·have h:=Dn h;unfold HM at h;rw[a6] at h
   grind [kT,C7]
  exact kT d h hi b hx rl m A
theorem Hh {ih:iK} (b:Sound P G ih) {f:Nat} {args:List Y} {xs:Array Value} {V':B} {v:Y} (h:js P G ih f args V= .iP v V') (hi:Inv O V w) (d:GR O G) (hx:cA O args xs.toList)
  (rl:Option Nat) (m:Nat) {R:Ending->World->Prop} (A:∀(O':Ren) (w':World) (x:Value),Inv O' V' w'->dY O V w O' V' w'->VR O' v x->R (.panicked [{v:=x,recovered:=false}]) w'):CallsIn (jT rl) m P f xs w R:=by
 unfold js at h;cases hk:G.w9 f args V with
 | some u=>grind
 | none=>
 rw[hk] at h;dsimp only at h;split at h
 ·grind
 split at h
 ·cases h
 rw[a6] at h;split at h
 ·exact absurd h<|Dm _ _ _
 exact xr b h (fun n h=>by cases h) hi d hx rl m fun O' w' E i s ⟨x,C,hv⟩=>by subst C;exact A O' w' x i s hv
theorem xS (e:Ex) (hp:xR e=false):(sA e).isNone=Ab e:=by cases e<;>first | rfl | cases hp
theorem Pe.J4 {e:Ex} {E:Exit} (hp:xR e=false) (h:Pe O e E):E=Ev.J4 e:=by cases e<;>first | exact h | cases hp
theorem DI {l:Nat} {R:Ending->World->Prop} {e:Ex} (hp:xR e=false) {a:Act} (h:∃v w',(Instr.endRound l<|sA e).run P w= .ok v w'/\R (.returned v) w'):roundPost P l R (J4 e) a w:=by
 cases e<;>first | exact h | cases hp
theorem BE {ih:iK} (hS:Sound P G ih) {b:Pos} {l:Loc} {args:List Y} {xs:Array Value} {V':B} {v:Y} (h:kH ih b args V= .ret v V') (hi:Inv O V w) (hg:GR O G) (hx:cA O args xs.toList) (hl:O b=some l)
  (rl:Option Nat) (m:Nat) {R:Ending->World->Prop} (hR:∀(O':Ren) (w':World) (x:Value),Inv O' V' w'->dY O V w O' V' w'->VR O' v x->R (.returned x) w'):
  ∃f tmps assign body,(Instr.yield l.cH xs).run P w= .ok (.round l.cH f tmps assign body) w/\RoundIn (jT rl) m P l.cH f tmps assign body w R:=by
 unfold kH at h;cases hb:V.m.get b with
 | none=>rw[hb] at h;cases h
 | some o=>
 rw[hb] at h;cases o with
 | loop state pending tmps n params assign body df=>
  dsimp only at h;cases hp:sN n params args tmps with
  | none=>rw[hp] at h;cases h
  | some t=>
  rw[hp] at h;dsimp only at h;obtain⟨x,hh,fn,tmps',l',rfl,a2,av⟩:=hi.obj b _ l hb hl;obtain⟨hlen,ht⟩:=rE params args tmps t tmps' xs.toList hp av hx;refine⟨fn,_,assign,body,run_yield hh (by simpa using hlen.symm),?_⟩
  have M:((params.toArray.zip xs).foldl (fun tmps (t,a)=>tmps.setIfInBounds t a) tmps')=(params.zip xs.toList).foldl (fun tmps (t,a)=>tmps.setIfInBounds t a) tmps':=by
   rw[<-Array.foldl_toList,Array.toList_zip]
  refine roundIn_of_wpIn (kW rl _) ?_;rw[J6];dsimp only;rw[M];cases hc:ih assign t n [] (some b) V with
  | err k=>rw[hc] at h;cases h
  | ok e t₁ d₁ V1=>
  rw[hc] at h;cases e with
  | normal=>
   cases d₁ with
   | nil=>
    dsimp only at h;refine hS.run assign t n [] (some b) V _ t₁ [] V1 hc O w _ (some l.cH) m _ hi hg ht Z ⟨l,hl,Z⟩ fun ρ₁ w₁ a₁ hi₁ st₁ ht₁ aE E hE=>?_
    have hE:E= .normal:=hE;subst hE;have hl₁:=st₁.le hi b l hl;have hg₁:=hg.mono (st₁.le hi);show∃w₂,_;cases hb₁:V1.m.get b with
    | none=>rw[hb₁] at h;cases h
    | some o₁=>
    rw[hb₁] at h;cases o₁ with
    | loop L p₁ I n₁ params₁ assign1 A T=>
     cases L with
     | ready=>
      dsimp only at h;obtain⟨x₁,hh₁,U,C,W,rfl,X,aa⟩:=hi₁.obj b _ l hb₁ hl₁;obtain⟨inv₂,st₂⟩:=hi₁.putObj (o':=.loop .busy p₁ I n₁ params₁ assign1 A T) hb₁ hl₁ Z Z (x:=.loop {state:=.busy,pending:=p₁,fn:=U,tmps:=C,params:=params₁.toArray,assign:=assign1,body:=A,defers:=W.cH}) ⟨U,C,W,Z,X,aa⟩;refine⟨_,run_beginRound hh₁ Z,?_⟩;cases hc₂:ih body t₁ n [] (some b) (V1.setObj b (.loop .busy p₁ I n₁ params₁ assign1 A T)) with
      | err k=>rw[hc₂] at h;cases h
      | ok e₂ t₂ d₂ V2=>
      rw[hc₂] at h;cases d₂ with
      | cons _ _=>cases h
      | nil=>
      dsimp only at h;cases u:xR e₂ with
      | true=>rw[u] at h;cases h
      | false=>
      rw[u] at h;simp only[cond_false] at h;refine hS.run body t₁ n [] (some b) _ e₂ t₂ [] V2 hc₂ ρ₁ _ a₁ (some l.cH) m _ inv₂ hg₁ ht₁ aE ⟨l,hl₁,Z⟩ fun ρ₃ w₃ a₃ hi₃ ab a3 a4 E hE=>?_
      have hE:=hE.J4 u;subst hE;have hl₃:=ab.le inv₂ b l hl₁;cases hb₃:V2.m.get b with
      | none=>rw[hb₃] at h;cases h
      | some o₃=>
      rw[hb₃] at h;cases o₃ with
      | loop au p₃ Q n₃ params₃ assign3 K a0=>
       dsimp only at h;cases h;obtain⟨x₃,hh₃,ac,F,ak,rfl,am,an⟩:=hi₃.obj b _ l hb₃ hl₃;have aq:(if(sA e₂).isNone then LoopState.ready else .done)=rN e₂:=by cases e₂<;>first | rfl | cases u
       obtain⟨ao,a1⟩:=hi₃.putObj (o':=.loop (rN e₂) (sA e₂) Q n₃ params₃ assign3 K a0) hb₃ hl₃ Z Z
        (x:=.loop {state:=rN e₂,pending:=sA e₂,fn:=ac,tmps:=F,params:=params₃.toArray,assign:=assign3,body:=K,defers:=ak.cH}) ⟨ac,F,ak,Z,am,an⟩
       refine DI u ⟨.bool<|Ab e₂,_,?_,hR ρ₃ _ _ ao (((st₁.trans st₂).trans ab).trans a1) (by simp only[VR])⟩;rw[run_endRound _ hh₃,xS _ u];have ap:(if Ab e₂=true then LoopState.ready else .done)=rN e₂:=by rw[<-xS _ u];exact aq
       rw[ap]
      | _=>cases h
     | _=>cases h
    | _=>cases h
   | cons _ _=>cases h
  | _=>cases h
 | _=>cases h
theorem FF {ih:iK} (u:Sound P G ih) {o:Oper} {r:HR} {res:Result Next} {v:Y} {V':B} (hi:Inv O V w) (A:GR O G) (C:wY P O V w r res) (h:jH P G ih r= .ret v V') (rl:Option Nat) (m:Nat) {a:Act} {next:Act->World->Prop} {Q:Exit->Act->World->Prop}
  (d:∀(O':Ren) (w':World) (x:Value),Inv O' V' w'->dY O V w O' V' w'->VR O' v x->next (a.put o.dst x) w'):o.uponIn (jT rl) m P a next Q res:=by
 cases C with
 | val hv b st=>
  cases h;rw[Oper.uponIn_value]
  grind
 | skip b st=>
  cases h;rw[Oper.uponIn_skip];exact d _ _ _ b st tY
 | enter hv=>
  rw[Oper.uponIn_enter];exact⟨oJ rl m,qz u h hi A hv rl _ fun O' w' x i s q=>d O' w' x i s q⟩
 | round hv hl E=>
  subst E
  obtain⟨f,tmps,assign,body,h1,F⟩:=BE u h hi A hv hl rl (m-1) (R:=fun
   | .returned v,w''=>next (a.put o.dst v) w''
   | .panicked chain,w''=>Q (.panic chain) a w''
   | .outgrown,_=>LetsOut Q) (fun O' w' x i s q=>d O' w' x i s q)
  rw[h1,Oper.uponIn_round];exact⟨oJ rl m,F⟩
 | iP hv=>cases h
theorem DH {ih:iK} {l:Pos} {args:List Y} {v:Y} {V':B}:kH ih l args V≠ .iP v V':=by
 intro h;unfold kH at h
 repeat' (first | (cases h;done) | (rw[a6] at h) | split at h)
theorem J0 {ih:iK} (d:Sound P G ih) {o:Oper} {r:HR} {res:Result Next} {v:Y} {V':B} (hi:Inv O V w) (u:GR O G) (A:wY P O V w r res) (h:jH P G ih r= .iP v V') (rl:Option Nat) (m:Nat) {a:Act} {next:Act->World->Prop} {Q:Exit->Act->World->Prop}
  (C:∀(O':Ren) (w':World) (x:Value),Inv O' V' w'->dY O V w O' V' w'->VR O' v x->Q (.panic [{v:=x,recovered:=false}]) a w'):o.uponIn (jT rl) m P a next Q res:=by
 cases A with
 | val hv b st=>cases h
 | skip b st=>cases h
 | enter hv=>
  rw[Oper.uponIn_enter];exact⟨oJ rl m,Hh d h hi u hv rl _ fun O' w' x i s q=>C O' w' x i s q⟩
 | round hv hl hr=>exact absurd h DH
 | iP hv=>
  cases h
  grind [Oper.uponIn_panic,dY.refl]
theorem zb {ih:iK} {r:HR} {v:Y} {V':B} (h:jH P G ih r= .iP v V') (n:Nat):r≠ .err n:=by
 intro e;subst e;cases h
theorem Ko {ih:iK} (b:Sound P G ih) {ev:Operand->Option Y} {o:Oper} {a:Act} {v:Y} {V':B} (hi:Inv O V w) (d:GR O G) (u:ER O ev a.eval o.op) (h:jH P G ih (dq P G ev V o.op)= .iP v V') (rl:Option Nat) (m:Nat) {next:Act->World->Prop} {Q:Exit->Act->World->Prop}
  (A:∀(O':Ren) (w':World) (x:Value),Inv O' V' w'->dY O V w O' V' w'->VR O' v x->Q (.panic [{v:=x,recovered:=false}]) a w'):o.wpIn (jT rl) m P a w next Q:=by
 have hne:=zb h;refine⟨fun f _=>kW rl f,?_⟩;rw[Oper.semAt_eq _ _ _<|tC hne];exact J0 b hi d (Bp b.cx.ov hi u Z hne) h rl m A
theorem AF {ih:iK} {r:HR} {v:Y} {V':B} (h:jH P G ih r= .ret v V') (n:Nat):r≠ .err n:=by
 intro e;subst e;cases h
theorem Bo {ih:iK} (b:Sound P G ih) {ev:Operand->Option Y} {o:Oper} {a:Act} {v:Y} {V':B} (hi:Inv O V w) (d:GR O G) (u:ER O ev a.eval o.op) (h:jH P G ih (dq P G ev V o.op)= .ret v V') (rl:Option Nat) (m:Nat) {next:Act->World->Prop} {Q:Exit->Act->World->Prop}
  (A:∀(O':Ren) (w':World) (x:Value),Inv O' V' w'->dY O V w O' V' w'->VR O' v x->next (a.put o.dst x) w'):o.wpIn (jT rl) m P a w next Q:=by
 have hne:=AF h;refine⟨fun f _=>kW rl f,?_⟩;rw[Oper.semAt_eq _ _ _<|tC hne];exact FF b hi d (Bp b.cx.ov hi u Z hne) h rl m A
theorem sI {ih:iK} (F:Sound P G ih) {ops:Array Oper} {n m:Nat} {d:List DE} (rl:Option Nat) {Q:Exit->Act->World->Prop} {e:Ex} {t':D Y} {d':List DE} {V':B}:
  ∀(l:List Oper) (i:Nat),ops.toList.drop i=l->∀(t:D Y) (V:B) (O:Ren) (w:World) (a:Act),AN d (rv P G ih ops n d l t V)= .ok e t' d' V'->Inv O V w->GR O G->TR O t n a.tmps->DR O d a.defers->
   (∀(O':Ren) (w':World) (a':Act),Inv O' V' w'->dY O V w O' V' w'->TR O' t' n a'.tmps->DR O' d' a'.defers->Qx Q O' e a' w')->wpOpsIn (jT rl) m P ops Q (List.range' i l.length) a w
 | [],i,hl,t,V,O,w,a,h,hi,A,u,hd,C=>by
  have h':CR.ok .normal t d V= .ok e t' d' V':=h;cases h';exact C O w a hi (dY.refl _ _ _) u hd _ Z
 | o::l,i,hl,t,V,O,w,a,h,hi,A,u,hd,C=>by
  have I:ops[i]? =some o:=by
   rw[<-aT_];have:(ops.toList.drop i)[0]? =some o:=by rw[hl];rfl
   simpa using this
  have E:ops.toList.drop (i+1)=l:=by
   rw[<-List.drop_drop,hl];rfl
  have h':AN d (gq P G ih true ops n o t V<|rv P G ih ops n d l)= .ok e t' d' V':=h;unfold gq at h';simp only[List.length_cons,List.range'_succ,wpOpsIn,I];cases hw:bu ops t o with
  | none=>rw[hw] at h';cases h'
  | some b=>
   rw[hw] at h';rw[Aa hw u];cases b with
   | false=>
    dsimp only at h';cases hp:dc t n o.dst unit with
    | none=>rw[hp] at h';cases h'
    | some t₁=>
     rw[hp] at h';simp only[Bool.false_eq_true,if_false];exact⟨fun f _=>kW rl f,sI F rl l (i+1) E t₁ V O w _ h' hi A (u.put hp tY) (by rw[put_defers];exact hd) C⟩
   | true=>
    dsimp only at h';cases he:jH P G ih (dq P G (aY G t) V o.op) with
    | err k=>rw[he] at h';cases h'
    | iP v K=>
     rw[he] at h';have h':CR.ok (.iP v) t d K= .ok e t' d' V':=h';cases h';simp only[if_true];refine Ko F hi A (Lp _ A u) he rl m fun ρ₁ w₁ x hi₁ st₁ hv=>?_
     have hle:=st₁.le hi;exact C ρ₁ w₁ a hi₁ st₁ (u.mono hle) (hd.mono hle) _ ⟨x,Z,hv⟩
    | ret v K=>
     rw[he] at h';dsimp only at h';cases hp:dc t n o.dst v with
     | none=>rw[hp] at h';cases h'
     | some t₁=>
      rw[hp] at h';simp only[if_true];refine Bo F hi A (Lp _ A u) he rl m fun ρ₁ w₁ x hi₁ st₁ hv=>?_
      have hle:=st₁.le hi
      exact sI F rl l (i+1) E t₁ K ρ₁ w₁ _ h' hi₁ (A.mono hle) ((u.mono hle).put hp hv) (by rw[put_defers];exact hd.mono hle)
       fun O' w' a' i' s'=>C O' w' a' i' (st₁.trans s')
end
theorem wa {P:Program} {V V':B} (he:∀(b:Pos) (o:bU),V.m.get b=some o->V'.m.get b=some o) {u:Option TypeId} {x:Option Y} {v:Y} (h:mJ P u V x=some v):mJ P u V' x=some v:=by
 unfold mJ at h⊢
 grind
theorem Gm {P:Program} {ev:Operand->Option Y} {V V':B} {op:Op} {v:Y} (he:∀b o,V.m.get b=some o->V'.m.get b=some o) (h:eE P ev V op=some v):eE P ev V' op=some v:=by
 cases op with
 | load t x=>
  grind [eE]
 | lookup t x i ok=>
  simp only[eE] at h⊢
  grind
 | call c=>
  grind [eE]
 | convert src dst x=>
  simp only[eE] at h⊢;split at h
  ·grind
  ·split at h
   ·rw[a6] at h⊢;split at h
    ·cases h
    rename_i d;rw[if_neg d];exact wa he h
   cases h
  ·rw[a6] at h⊢;split at h
   ·rename_i d;rw[if_pos d];exact wa he h
   cases h
  cases h
 | _=>exact h
theorem pz {ops:Array Oper} {i j:Nat}:waits ops i j=true↔∃o,ops[i]? =some o/\∃e∈o.after,Region.binds .any e=true/\e.on=j:=by
 unfold waits;cases h:ops[i]? with
 | none=>simp
 | some o=>
  simp only[Option.map_some,Option.getD_some,oJ_,exists_eq_left',bA_,beq_iff_eq,Array.any_iff_exists];constructor
  ·grind
  rintro ⟨e,he,h1⟩;obtain⟨q,hq,rfl⟩:=Array.getElem_of_mem he
  grind
structure Shape (P:Program) (ops:Array Oper) (A:Array Nat):Prop where
 dep:∀i j,waits ops i j=true->j<ops.size
 qk:∀i j,i<ops.size->j<ops.size->qk A i j=true->waits ops i j=true∨∃d,waits ops i d=true/\Ev.qk A d j=true
 uniq:∀i j k,ek ops i=some k->ek ops j=some k->i=j
 look:∀(i:Nat) (o:Oper) (j k:Nat),ops[i]? =some o->ek ops j=some k->k∈slotsOf ops o->Ev.qk A i j=true∨(fc P ops i=false/\(j=i∨Ev.qk A j i=true))
 dst:∀(i:Nat) (o:Oper),ops[i]? =some o->fc P ops i=true->∃k,o.dst=some k
theorem kj {ops:Array Oper} {i k:Nat} (h:ek ops i=some k):i<ops.size:=by
 grind [ek]
theorem gm {ops:Array Oper} {i:Nat} {o:Oper} (h:ops[i]? =some o):ek ops i=o.dst:=by simp[ek,h]
theorem ir (m i:Nat):hasB m i=m.testBit i:=by
 rw[Nat.testBit_eq_decide_div_mod_eq];show Nat.beq ((m >>> i) &&& 1) 1=_
 grind [Nat.shiftRight_eq_div_pow,Nat.beq]
theorem Ms (w:Nat):Nat.beq (Nat.land w 1) 1=w.testBit 0:=by
 have:=ir w 0;exact this
theorem ta (i j:Nat):(bit i).testBit j=decide (i=j):=by
 show(1 <<< i).testBit j=_;rw[Nat.one_shiftLeft,Nat.testBit_two_pow]
theorem lg (m k j:Nat):(Nat.lor m k).testBit j=(m.testBit j || k.testBit j):=Nat.testBit_or m k j
theorem iX {j:Nat}:∀{l:List Nat},(lM l).testBit j=true↔j∈l
 | []=>by simp[lM]
 | i::l=>by
  show(Nat.lor (bit i)<|lM l).testBit j=true↔_;rw[lg,ta,Bool.or_eq_true,iX,mQ_,decide_eq_true_eq]
  grind
theorem yh {m k:Nat} (h:zS m k=true) (j:Nat) (hj:m.testBit j=true):k.testBit j=true:=by
 have e:m &&& k=m:=nB h
 grind
theorem DV {m k:Nat} (h:zS m k=false):∃j,m.testBit j=true/\k.testBit j=false:=by
 apply Classical.byContradiction;intro hn
 have e:m &&& k=m:=Nat.eq_of_testBit_eq fun j=>by
  simp_all
 have:zS m k=true:=by
  show Nat.beq (m &&& k) m=true
  simp_all
 simp_all
theorem pZ {j:Nat}:∀{L:List RA} {w:Nat},(vR L w).testBit j=true->∃d x,L[d]? =some x/\w.testBit d=true/\x.a.testBit j=true
 | [],w,h=>by simp[vR] at h
 | x::L,w,h=>by
  have h':(Nat.lor (@Bool.rec (fun _=>Nat) 0 x.a<|Nat.beq (Nat.land w 1) 1)<|vR L<|w >>> 1).testBit j=true:=h;rw[lg,Bool.or_eq_true,Ms] at h';rcases h' with h' | h'
  ·cases hw:w.testBit 0 with
   | true=>rw[hw] at h';exact⟨0,x,Z,hw,h'⟩
   | false=>
    rw[hw] at h';have h'':(0:Nat).testBit j=true:=h';simp at h''
  obtain⟨d,y,h1,b,m⟩:=pZ h';rw[Nat.testBit_shiftRight] at b;exact⟨d+1,y,by simpa using h1,by rw[Nat.add_comm];exact b,m⟩
theorem qJ:∀(rows:List Row) (L:List RA),(IM rows L).map (·.r)=L.map (·.r)++rows
 | [],L=>by show L.map (·.r)=_;simp
 | r::rows,L=>by
  show(IM rows<|fD L [⟨r,Nat.lor r.w<|vR L r.w⟩]).map (·.r)=_
  rw[qJ rows,dv];simp
theorem zB {P:Program} {ops:Array Oper} {i:Nat} {o:Oper} (h:ops[i]? =some o):∃x,(gP P ops)[i]? =some x/\x.r=wx P ops o:=by
 have e:=qJ (xe (wx P ops) ops.toList) [];rw[jW] at e
 have e':((gP P ops).map (·.r))[i]? =some (wx P ops o):=by
  unfold gP;rw[jW,e];simp[h]
 simp_all
theorem IN {P:Program} {ops:Array Oper} {i:Nat} {x:RA} (h:(gP P ops)[i]? =some x):∃o,ops[i]? =some o/\x.r=wx P ops o:=by
 have e:=qJ (xe (wx P ops) ops.toList) [];rw[jW] at e
 have e':((gP P ops).map (·.r))[i]? =ops[i]?.map (wx P ops):=by
  unfold gP;rw[jW,e];simp
 grind
theorem BF {P:Program} {ops:Array Oper} {i j:Nat} {o:Oper} (h:ops[i]? =some o):(wx P ops o).w.testBit j=true↔waits ops i j=true:=by
 rw[pz];show(lM _).testBit j=true↔_;rw[iX,List.mem_filterMap]
 simp_all
theorem xq {α:Type} {f:Nat->α->Bool}:∀{l:List α} {i:Nat},allI f l i=true->∀(j:Nat) (x:α),l[j]? =some x->f (i+j) x=true
 | [],i,_,j,x,hx=>by simp at hx
 | y::l,i,h,j,x,hx=>by
  have h': @Bool.rec (fun _=>Bool) false (allI f l (i+1)) (f i y)=true:=h;cases hf:f i y with
  | false=>rw[hf] at h';cases h'
  | true=>
   rw[hf] at h';cases j with
   | zero=>simp at hx;subst hx;exact hf
   | succ j=>
    have:=xq h' j x (by simpa using hx);rw[show i+(j+1)=i+1+j by omega];exact this
theorem oy {α:Type} {f:Nat->α->Bool} {l:List α} (h:allI f l 0=true) (j:Nat) (x:α) (hx:l[j]? =some x):f j x=true:=by
 have:=xq h j x hx
 simp_all
theorem kg {a b:Bool} (h:(bif a then b else false)=true):a=true/\b=true:=by cases a<;>simp_all
def yL (P:Program) (ops:Array Oper):Array Nat:=((gP P ops).map (·.a)).toArray
theorem qU {P:Program} {ops:Array Oper} {i j:Nat} {x:RA} (h:(gP P ops)[i]? =some x):qk (yL P ops) i j=x.a.testBit j:=by
 unfold qk yL
 simp_all
theorem AS {P:Program} {ops:Array Oper} {i:Nat} {o:Oper} (h:ops[i]? =some o):iu P ops i=(wx P ops o).h:=by unfold iu;rw[h];rfl
theorem vG {P:Program} {ops:Array Oper} {i:Nat} {o:Oper} (h:ops[i]? =some o):fc P ops i=(wx P ops o).k:=by unfold fc;rw[h];rfl
theorem Dv {i j:Nat} {x y:RA} (h:IB i x j y=true) (hd:y.r.dm=lM y.r.d.toList):Br i x j y=true:=by
 unfold IB at h;cases hb:Nat.beq (Nat.land (Nat.lor x.r.dm x.r.s) y.r.dm) 0 with
 | false=>rw[hb] at h;exact h
 | true=>
  have e:(x.r.dm ||| x.r.s) &&& y.r.dm=0:=nB hb;unfold Br;cases hy:y.r.d with
  | none=>rfl
  | some k=>
   have hk:y.r.dm.testBit k=true:=by rw[hd,hy];exact iX.2 (by simp)
   have h0:((x.r.dm ||| x.r.s) &&& y.r.dm).testBit k=false:=by simp_all
   rw[Nat.testBit_and,hk,Bool.and_true,Nat.testBit_or,Bool.or_eq_false_iff] at h0
   grind [ir]
theorem IZ {P:Program} {ops:Array Oper} (h:IY (gP P ops) ops.size=true):Shape P ops (yL P ops):=by
 have key:∀i o,ops[i]? =some o->∃x,(gP P ops)[i]? =some x/\x.r=wx P ops o/\x.r.w<2 ^ ops.size/\(x.r.k=true->x.r.d.isSome=true)/\zS x.a (Nat.lor x.r.w<|vR (gP P ops) x.r.w)=true/\
   ∀j y,(gP P ops)[j]? =some y->Br i x j y=true:=by
  intro i o b;obtain⟨x,hx,m⟩:=zB (P:=P) b;have h1:=oy h i x hx;obtain⟨M,h1⟩:=kg h1;obtain⟨k2,h1⟩:=kg h1;obtain⟨Q,h1⟩:=kg h1;refine⟨x,hx,m,?_,fun hk=>?_,Q,fun j y hy=>Dv (oy h1 j y hy) (by obtain⟨o',_,A⟩:=IN hy;rw[A];rfl)⟩
  ·rw[uc] at M;have:bit ops.size=2 ^ ops.size:=Nat.one_shiftLeft _;omega
  simp_all
 have pair:∀i o j o' k,ops[i]? =some o->ops[j]? =some o'->o'.dst=some k->(o.dst=some k->j=i)/\(k∈slotsOf ops o->qk (yL P ops) i j=true∨(fc P ops i=false/\(j=i∨qk (yL P ops) j i=true))):=by
  intro i o j o' k b E hk;obtain⟨x,hx,m,_,_,_,hp⟩:=key i o b;obtain⟨y,hy,A⟩:=zB (P:=P) E;have h1:=hp j y hy;unfold Br at h1;have hd:y.r.d=some k:=by rw[A];exact hk
  rw[hd] at h1;have F:(bif (bif hasB x.r.dm k then Nat.beq j i else true) then(bif hasB x.r.s k then(bif hasB x.a j then true else(bif x.r.k then false else(bif Nat.beq j i then true else hasB y.a i))) else true) else false)=true:=h1;obtain⟨g1,u⟩:=kg F;refine⟨fun G=>?_,fun I=>?_⟩
  ·have:hasB x.r.dm k=true:=by
    rw[ir,m];show(lM o.dst.toList).testBit k=true;rw[iX,G];simp
   simp_all
  have:hasB x.r.s k=true:=by
   rw[ir,m];exact iX.2 I
  rw[this] at u;simp only[cond_true] at u;rw[qU hx,qU hy,vG (P:=P) b,<-m];cases C:hasB x.a j with
  | true=>rw[ir] at C;exact .inl C
  | false=>
   rw[C] at u;simp only[cond_false] at u;cases K:x.r.k with
   | true=>simp_all
   | false=>
    rw[K] at u;simp only[cond_false] at u;cases hb:Nat.beq j i with
    | true=>simp_all
    | false=>rw[hb] at u;rw[ir] at u;simp_all
 refine⟨fun i j hw=>?_,fun i j hi hj C=>?_,fun i j k hi hj=>?_,fun i o j k b hj hk=>?_,fun i o b hl=>?_⟩
 ·obtain⟨o,b,_⟩:=pz.1 hw;obtain⟨x,hx,m,aa,_⟩:=key i o b;have:x.r.w.testBit j=true:=by rw[m];exact(BF b).2 hw
  apply Classical.byContradiction
  grind [Nat.testBit_lt_two_pow,Nat.lt_of_lt_of_le,Nat.pow_le_pow_right]
 ·have b:ops[i]? =some ops[i]:=aG_ hi;obtain⟨x,hx,m,_,_,I,_⟩:=key i _ b;rw[qU hx] at C;have h1:=yh I j C;rw[lg,Bool.or_eq_true] at h1;rcases h1 with h1 | h1
  ·rw[m] at h1;exact .inl ((BF b).1 h1)
  obtain⟨d,y,hy,L,R⟩:=pZ h1;rw[m] at L;exact .inr ⟨d,(BF b).1 L,by rw[qU hy];exact R⟩
 ·have hi':=kj hi;have hj':=kj hj;have b:ops[i]? =some ops[i]:=aG_ hi'
  grind [gm]
 ·grind [kj,gm]
 obtain⟨x,hx,m,_,hd,_⟩:=key i o b;rw[vG (P:=P) b,<-m] at hl;have:=hd hl;rw[m] at this;exact Option.isSome_iff_exists.1 this
def Ord (ops:Array Oper):List Nat->Prop
 | []=>True
 | i::r=>(∀j,waits ops i j=true->j∈r)/\Ord ops r
structure G4 (P:Program) (ops:Array Oper) (A:Array Nat) (i:Nat) (rc:List Nat) (done:List Nat):Prop where
 lt:i<ops.size
 new:i∉done
 dep:∀j,waits ops i j=true->j∈done
 again:iu P ops i=true->∀j∈done,fc P ops j=true->qk A i j=true∨j∈rc
 alone:iu P ops i=true->∀j,j<ops.size->j∉done->j≠i->∃e,waits ops j e=true/\e∉done
def Ea (P:Program) (ops:Array Oper) (A:Array Nat):List (Nat×List Nat)->List Nat->Prop
 | [],done=>∀i,i<ops.size->i∈done
 | (i,rc)::l,done=>G4 P ops A i rc done/\Ea P ops A l (i::done)
theorem uL {P:Program} {ops:Array Oper}:∀(p:List (Nat×List Nat)) (D_:Nat) (done:List Nat),(∀j,D_.testBit j=true↔j∈done)->CP (gP P ops) ops.size p D_=true->Ea P ops (yL P ops) p done
 | [],D_,done,A,h=>fun i hi=>by
  have e:D_=bit ops.size-1:=nB h;rw[<-A,e,show bit ops.size=2 ^ ops.size from Nat.one_shiftLeft _,Nat.testBit_two_pow_sub_one]
  simp_all
 | (i,rc)::l,D_,done,A,h=>by
  have h':Option.rec (motive:=fun _=>Bool) false (fun x=>bif HQ (gP P ops) i rc D_ x then CP (gP P ops) ops.size l (Nat.lor D_<|bit i) else false) (nth (gP P ops) i)=true:=h;rw[eQ] at h';cases hx:(gP P ops)[i]? with
  | none=>simp_all
  | some x=>
  rw[hx] at h';obtain⟨h1,I⟩:=kg h';obtain⟨o,E,G⟩:=IN hx;have hlt:=(aS_.1 E).1;unfold HQ at h1;cases hi:hasB D_ i with
  | true=>simp_all
  | false=>
  rw[hi] at h1;obtain⟨hw,C⟩:=kg h1;refine⟨⟨hlt,fun hm=>?_,fun j hj=>?_,fun hh j hj hl=>?_,fun hh j hj hn hne=>?_⟩,uL l _ (i::done) (fun j=>?_) I⟩
  ·rw[ir] at hi
   grind
  ·grind [yh,BF]
  ·rw[AS (P:=P) E,<-G] at hh;rw[hh] at C
   have m:∃o',ops[j]? =some o':=by
    cases b:ops[j]? with
    | some o'=>exact⟨o',Z⟩
    | none=>unfold fc at hl;simp_all
   obtain⟨o',b⟩:=m;obtain⟨y,hy,u⟩:=zB (P:=P) b;have h4:=oy C j y hy;have d:hasB D_ j=true:=by rw[ir];exact(A j).2 hj
   rw[d] at h4;simp only[cond_true] at h4;rw[qU hx];cases F:hasB x.a j with
   | true=>rw[ir] at F;exact .inl F
   | false=>
    rw[F] at h4;rw[vG (P:=P) b,<-u] at hl;rw[hl] at h4;simp only[cond_true,cond_false] at h4;rw[ir] at h4;exact .inr<|iX.1 h4
  ·rw[AS (P:=P) E,<-G] at hh;rw[hh] at C;have b:ops[j]? =some ops[j]:=aG_ hj;obtain⟨y,hy,u⟩:=zB (P:=P) b;have h4:=oy C j y hy
   have d:hasB D_ j=false:=by
    grind [ir]
   rw[d] at h4;simp only[cond_false] at h4;cases hb:Nat.beq j i with
   | true=>simp_all
   | false=>
    rw[hb] at h4;simp only[cond_false] at h4
    grind [DV,BF]
  rw[lg,ta,Bool.or_eq_true,A,mQ_,decide_eq_true_eq]
  grind
theorem J5 {P:Program} {ops:Array Oper} (h:sn P ops=true):Shape P ops (yL P ops)/\Ea P ops (yL P ops) (jz P ops) []:=by
 obtain⟨h1,h2⟩:=kg h
 grind [IZ,uL]
def Li (listed:Array Bool) (i:Nat):Prop:=listed.getD i false=true
theorem Li.lt {listed:Array Bool} {i:Nat} (h:Li listed i):i<listed.size:=by
 grind [Li]
theorem Iq {listed:Array Bool} {i:Nat} (hi:i<listed.size):listed.getD i true=false↔¬Li listed i:=by
 simp[Li,Array.getD_eq_getD_getElem?,hi]
theorem Cr {listed:Array Bool} {i j:Nat} (hi:i<listed.size):Li (listed.setIfInBounds i true) j↔j=i∨Li listed j:=by
 unfold Li;simp only[Array.getD_eq_getD_getElem?,Array.getElem?_setIfInBounds]
 grind
def cH:Y->Option Pos
 | .ptr b _=>some b
 | .slice b _ _ _=>some b
 | .map b=>some b
 | _=>none
theorem yP (mk:Mk) (b:Pos):cH (mk.of b)=some b:=by cases mk<;>rfl
def kQ (P:Program) (G:Cx) (t:D Y) (V:B) (O:Ren) (lo:Nat) (ti:D Y) (o:Oper):Prop:=
 match kindOf P o.op with
 | .pure=>∃v,cS P (aY G ti) o.op=some v/\∀k,o.dst=some k->t.get (posOf k)=some v
 | .read=>∃v,eE P (aY G ti) V o.op=some v/\∀k,o.dst=some k->t.get (posOf k)=some v
 | .alloc=>∃ob mk b,eF P (aY G ti) o.op=some (ob,mk)/\V.m.get b=some ob/\O b=none/\lo<=b.num/\b.num<V.next.num/\∀k,o.dst=some k->t.get (posOf k)=some (mk.of b)
 | .jv=>False
def pB (P:Program) (G:Cx) (ops:Array Oper) (A:Array Nat) (t₀ t:D Y) (V:B) (O:Ren) (lo:Nat) (i:Nat):Prop:=
 ∃o ti,ops[i]? =some o/\
  (∀k∈slotsOf ops o,∀j,qk A i j=true->ek ops j=some k->ti.get (posOf k)=t.get (posOf k))/\
  (∀k∈slotsOf ops o,(∀j,ek ops j=some k->qk A i j=false)->ti.get (posOf k)=t₀.get (posOf k))/\
  ∃bw,bu ops ti o=some bw/\(bw=false->∀k,o.dst=some k->t.get (posOf k)=some unit)/\(bw=true->kQ P G t V O lo ti o)
section
variable {P:Program} {G:Cx} {ops:Array Oper} {A:Array Nat} {t₀ t t₁:D Y} {V V1:B} {O ρ₁:Ren} {lo i:Nat}
theorem vp {o:Oper} {j:Nat} {want:Bool} {k:Nat} (b:o.guard=some (j,want)) (hk:(ops[j]?).bind (·.dst)=some k):k∈slotsOf ops o:=by
 unfold slotsOf;rw[b];simp[hk]
theorem zu {o:Oper} {k:Nat} (h:Operand.tmp k∈o.op.operands):k∈slotsOf ops o:=by
 unfold slotsOf;refine List.mem_append_left _<|List.mem_filterMap.2 ⟨.tmp k,by simpa using h,Z⟩
theorem jo {o:Oper} {ti tj:D Y} (h:∀k∈slotsOf ops o,ti.get (posOf k)=tj.get (posOf k)):bu ops ti o=bu ops tj o:=by
 grind [bu,vp]
theorem pB.agree (hp:pB P G ops A t₀ t V O lo i) (h:∀k,(ek ops i=some k∨∃j,qk A i j=true/\ek ops j=some k)->t₁.get (posOf k)=t.get (posOf k)):pB P G ops A t₀ t₁ V O lo i:=by
 obtain⟨o,ti,b,h1,m,bw,u,h4,h5⟩:=hp;have hd:∀k,o.dst=some k->t₁.get (posOf k)=t.get (posOf k):=fun k hk=>h k (.inl (by rw[gm b];exact hk))
 refine⟨o,ti,b,fun k hk j d hj=>(h1 k hk j d hj).trans (h k (.inr ⟨j,d,hj⟩)).symm,m,bw,u,fun hb k hk=>(hd k hk).trans (h4 hb k hk),fun hb=>?_⟩
 grind [kQ]
theorem pB.grow (hp:pB P G ops A t₀ t V O lo i) (h:∀b o,V.m.get b=some o->V1.m.get b=some o) (hn:V.next.num<=V1.next.num):pB P G ops A t₀ t V1 O lo i:=by
 obtain⟨o,ti,d,h1,u,bw,C,h4,h5⟩:=hp;refine⟨o,ti,d,h1,u,bw,C,h4,fun hb=>?_⟩
 grind [kQ,Gm]
theorem pB.QT (hp:pB P G ops A t₀ t V O lo i) (m:Shape P ops A) (h:∀b,(∃o k v,ops[i]? =some o/\kindOf P o.op= .alloc/\ek ops i=some k/\t.get (posOf k)=some v/\cH v=some b)->O b=none->ρ₁ b=none):pB P G ops A t₀ t V ρ₁ lo i:=by
 obtain⟨o,ti,d,h1,u,bw,C,h4,h5⟩:=hp;refine⟨o,ti,d,h1,u,bw,C,h4,fun hb=>?_⟩;have:=h5 hb;unfold kQ at this⊢;split at this
 ·exact this
 ·exact this
 ·rename_i hk;obtain⟨ob,mk,b,g1,g2,g3,g4,g5,g6⟩:=this;obtain⟨k,aa⟩:=m.dst i o d (by simp[fc,sD,d,hk])
  grind [gm,yP]
 exact this
theorem pB.again (hp:pB P G ops A t₀ t V O lo i) (T:Shape P ops A) (h:∀k,(ek ops i=some k∨∃j,qk A i j=true/\ek ops j=some k)->t₁.get (posOf k)=t.get (posOf k))
  (h0:∀k,(∀j,ek ops j≠some k)->t₁.get (posOf k)=t₀.get (posOf k)) (u:fc P ops i=true->jd P G ops t₁ V1 i=true)
  (hr:∀b:Pos,b.num<V.next.num->ρ₁ b=O b) (hn:V.next.num<=V1.next.num):pB P G ops A t₀ t₁ V1 ρ₁ lo i:=by
 have hp₁:=hp.agree h;obtain⟨o,ti,C,h1,I,bw,F,h4,h5⟩:=hp₁;cases hb:bw with
 | false=>exact⟨o,ti,C,h1,I,bw,F,h4,fun K=>absurd K (by rw[hb];simp)⟩
 | true=>
  have hv:=h5 hb;subst hb;cases hk:kindOf P o.op with
  | pure=>
   refine⟨o,ti,C,h1,I,true,F,h4,fun _=>?_⟩
   grind [kQ]
  | jv=>unfold kQ at hv;simp_all
  | read=>
   have hl:fc P ops i=true:=by simp[fc,sD,C,hk]
   have m:∀k∈slotsOf ops o,t₁.get (posOf k)=ti.get (posOf k):=fun k d=>by
    by_cases hw:∃j,ek ops j=some k
    ·obtain⟨j,hj⟩:=hw;rcases T.look i o j k C hj d with L | ⟨M,_⟩
     ·grind
     simp_all
    simp_all
   have aq:=u hl;unfold jd at aq;rw[C] at aq;dsimp only at aq;rw[jo m,F] at aq;dsimp only at aq;refine⟨o,t₁,C,fun _ _ _ _ _=>Z,fun k d hj=>(m k d).trans (I k d hj),true,by rw[jo m];exact F,fun h'=>(by cases h'),fun _=>?_⟩
   grind [kQ,JO]
  | alloc=>
   have hl:fc P ops i=true:=by simp[fc,sD,C,hk]
   have m:∀k∈slotsOf ops o,t₁.get (posOf k)=ti.get (posOf k):=fun k d=>by
    by_cases hw:∃j,ek ops j=some k
    ·obtain⟨j,hj⟩:=hw;rcases T.look i o j k C hj d with L | ⟨M,_⟩
     ·grind
     simp_all
    simp_all
   have aq:=u hl;unfold jd at aq;rw[C] at aq;dsimp only at aq;rw[jo m,F] at aq;dsimp only at aq;refine⟨o,t₁,C,fun _ _ _ _ _=>Z,fun k d hj=>(m k d).trans (I k d hj),true,by rw[jo m];exact F,fun h'=>(by cases h'),fun _=>?_⟩;unfold kQ at hv⊢;rw[hk] at hv⊢;dsimp only at hv⊢;obtain⟨ob,mk,b,g1,g2,g3,g4,g5,U⟩:=hv;split at aq
   ·rename_i k Q;have g6':=U k Q;rw[g6'] at aq;dsimp only at aq;rw[hk] at aq;dsimp only at aq;have ab:ρ₁ b=none:=by simp_all
    split at aq
    ·rename_i cs e b' L E;split at aq
     ·rename_i cs' e' R;rw[bA_] at aq;have e1:=nB aq.1;have e2:=ua aq.2;subst e1;subst e2;have aa:b'=b:=by cases mk<;>simp[Mk.of] at E<;>exact E.symm
      grind [Mk.of]
     cases aq
    ·rename_i cs e n c b' n' c' L E;split at aq
     ·rename_i cs' e' R;simp only[bA_] at aq;have e1:=nB aq.1.1.1;have e2:=ua aq.1.1.2;have e3:=nB aq.1.2;have e4:=nB aq.2;subst e1;subst e2;subst e3;subst e4;have ac:b'=b/\mk= .slice n c:=by cases mk<;>simp[Mk.of] at E<;>(simp_all)
      grind
     cases aq
    cases aq
   cases aq
end
theorem kG {t t₁:D Y} {n:Nat} {dst:Option Nat} {v:Y} (h:dc t n dst v=some t₁):
  (∀k,dst≠some k->t₁.get (posOf k)=t.get (posOf k))/\(∀k,dst=some k->k<n/\t₁.get (posOf k)=some v):=by
 cases dst with
 | none=>cases h;simp_all
 | some j=>
  obtain⟨hj,rfl⟩:=oY h;refine⟨fun k hk=>D.cK _ _ _ _ (fun e=>hk (by rw[oV e])),fun k hk=>?_⟩;cases hk;exact⟨hj,D.cN _ _ _⟩
theorem II {a:Act} {dst:Option Tmp} {x:Value}:(∀k,dst≠some k->(a.put dst x).tmps.getD k undef=a.tmps.getD k undef)/\(∀k,dst=some k->k<a.tmps.size->(a.put dst x).tmps.getD k undef=x)/\(a.put dst x).tmps.size=a.tmps.size:=by
 cases dst with
 | none=>exact⟨fun _ _=>Z,(fun k hk=>by cases hk),Z⟩
 | some j=>
  refine⟨fun k hk=>?_,fun k hk b=>?_,by simp[Act.put]⟩
  ·have:j≠k:=fun e=>hk (by rw[e])
   simp[Act.put,Array.getD_eq_getD_getElem?,Array.getElem?_setIfInBounds,this]
  cases hk;simp[Act.put,Array.getD_eq_getD_getElem?,Array.getElem?_setIfInBounds,b]
theorem cG {α:Type} {x y:α} {l:List α} (h:x∈y::l):x=y∨x∈l:=mQ_.1 h
structure J_ (P:Program) (G:Cx) (ih:iK) (ops:Array Oper) (A:Array Nat) (n:Nat) (d:List DE) (fin:CR) (ρ₀:Ren) (σ₀:B) (w₀:World) (t₀:D Y)
  (l:List (Nat×List Nat)) (done:List Nat) (t:D Y) (V:B) (listed:Array Bool) (O:Ren) (w:World) (a:Act):Prop where
 run:iQ P G ih ops n d l t V=fin
 ok:Ea P ops A l done
 inv:Inv O V w
 LS:dY ρ₀ σ₀ w₀ O V w
 dr:DR O d a.defers
 gr:GR O G
 LV:a.tmps.size=n
 JE:listed.size=ops.size
 Mc:∀i∈done,i<ops.size
 ord:Ord ops done
 sub:∀i,Li listed i->i∈done
 jv:∀i∈done,iu P ops i=true->Li listed i
 closed:∀i j,j<ops.size->Li listed i->qk A i j=true->Li listed j
 jS:∀i j,j<ops.size->i∈done->qk A i j=true->j∈done
 Nv:∀i∈done,∀k,ek ops i=some k->k<n
 BN:∀i k v,Li listed i->ek ops i=some k->t.get (posOf k)=some v->VR O v (a.tmps.getD k undef)
 BM:∀k v,(∀i,Li listed i->ek ops i≠some k)->t₀.get (posOf k)=some v->k<n/\VR O v (a.tmps.getD k undef)
 same:∀k,(∀i∈done,ek ops i≠some k)->t.get (posOf k)=t₀.get (posOf k)
 Bs:∀i∈done,¬Li listed i->pB P G ops A t₀ t V O σ₀.next.num i
 apart:∀i j o o' k k' v v' b,i∈done->j∈done->¬Li listed i->¬Li listed j->ops[i]? =some o->ops[j]? =some o'->kindOf P o.op= .alloc->kindOf P o'.op= .alloc->
  ek ops i=some k->ek ops j=some k'->t.get (posOf k)=some v->t.get (posOf k')=some v'->cH v=some b->cH v'=some b->i=j
section
variable {P:Program} {G:Cx} {ih:iK} {ops:Array Oper} {A:Array Nat} {n:Nat} {d:List DE} {fin:CR} {ρ₀:Ren} {σ₀:B} {w₀:World} {t₀:D Y}
variable {l:List (Nat×List Nat)} {done:List Nat} {t:D Y} {V:B} {listed:Array Bool} {O:Ren} {w:World} {a:Act}
theorem uE (b:Shape P ops A) {i:Nat} (hi:i<ops.size) (hw:∀j,waits ops i j=true->j∈done) (hd:∀i j,j<ops.size->i∈done->qk A i j=true->j∈done):∀j,j<ops.size->qk A i j=true->j∈done:=fun j hj m=>by
 rcases b.qk i j hi hj m with h | ⟨q,h1,h2⟩
 ·exact hw j h
 grind
theorem uF (b:Shape P ops A) {i:Nat} (hi:i<ops.size) (hw:∀j,waits ops i j=true->Li listed j) (hd:∀i j,j<ops.size->Li listed i->qk A i j=true->Li listed j):∀j,j<ops.size->qk A i j=true->Li listed j:=fun j hj m=>by
 rcases b.qk i j hi hj m with h | ⟨q,h1,h2⟩
 ·exact hw j h
 grind
theorem J_.vq (E:Shape P ops A) (hj:J_ P G ih ops A n d fin ρ₀ σ₀ w₀ t₀ l done t V listed O w a) {i:Nat} {o:Oper} (u:ops[i]? =some o) (C:i∉done):
  ∀k∈slotsOf ops o,(∀j,ek ops j=some k->qk A i j=false)->t.get (posOf k)=t₀.get (posOf k):=fun k hk aa=>by
 refine hj.same k fun j b m=>?_
 rcases E.look i o j k u m hk with h | ⟨_,h | h⟩
 ·simp_all
 ·subst h;exact C b
 exact C<|hj.jS j i (aS_.1 u).1 b h
theorem J_.look (F:Shape P ops A) (hj:J_ P G ih ops A n d fin ρ₀ σ₀ w₀ t₀ l done t V listed O w a) {i:Nat} {o:Oper} {ti:D Y} (u:ops[i]? =some o) (C:¬Li listed i) (I:∀j,j<ops.size->qk A i j=true->Li listed j)
  (h1:∀k∈slotsOf ops o,∀j,qk A i j=true->ek ops j=some k->ti.get (posOf k)=t.get (posOf k)) (K:∀k∈slotsOf ops o,(∀j,ek ops j=some k->qk A i j=false)->ti.get (posOf k)=t₀.get (posOf k)):
  ∀k∈slotsOf ops o,∀v,ti.get (posOf k)=some v->k<n/\VR O v (a.tmps.getD k undef):=fun k hk v hv=>by
 by_cases hw:∃j,ek ops j=some k/\qk A i j=true
 ·obtain⟨j,b,E⟩:=hw;have hL:=I j (kj b) E;rw[h1 k hk j E b] at hv;exact⟨hj.Nv j (hj.sub j hL) k b,hj.BN j k v hL b hv⟩
 have m:∀j,ek ops j=some k->qk A i j=false:=fun j b=>by
  simp_all
 rw[K k hk m] at hv;refine hj.BM k v (fun j hL b=>?_) hv;rcases F.look i o j k u b hk with h | ⟨_,h | h⟩
 ·simp_all
 ·subst h;exact C hL
 exact C<|hj.closed j i (aS_.1 u).1 hL h
theorem EF {ti:D Y} {o:Oper} (b:GR O G) (h:∀k∈slotsOf ops o,∀v,ti.get (posOf k)=some v->k<n/\VR O v (a.tmps.getD k undef)):ER O (aY G ti) a.eval o.op:=fun x hx v hv=>by
 cases x with
 | tmp k=>exact(h k (zu hx) v hv).2
 | const c=>exact gH (t:=.leaf) (n:=a.tmps.size) b ⟨Z,fun k v hk=>by rw[D.iq] at hk;cases hk⟩ hv
 | global g=>exact gH (t:=.leaf) (n:=a.tmps.size) b ⟨Z,fun k v hk=>by rw[D.iq] at hk;cases hk⟩ hv
 | func f=>exact gH (t:=.leaf) (n:=a.tmps.size) b ⟨Z,fun k v hk=>by rw[D.iq] at hk;cases hk⟩ hv
theorem tB {ti:D Y} {o:Oper} {b:Bool} (m:a.tmps.size=n) (h:∀k∈slotsOf ops o,∀v,ti.get (posOf k)=some v->k<n/\VR O v (a.tmps.getD k undef)) (hw:bu ops ti o=some b):Region.wanted o (yielded ops a.tmps)=b:=
 yy hw fun j want k u hk v hv=>by
  have:=h k (vp u hk) v hv;rw[m];exact this
theorem J_.ahead (hs:Shape P ops A) {i:Nat} {rc:List Nat} (hj:J_ P G ih ops A n d fin ρ₀ σ₀ w₀ t₀ ((i,rc)::l) done t V listed O w a) (hl:iu P ops i=false) {o:Oper} (ho:ops[i]? =some o) {v:Y} {t₁:D Y} {I:B}
  (hp:dc t n o.dst v=some t₁) (K:iQ P G ih ops n d l t₁ I=fin) (hinv:Inv O I w) (aq:dY O V w O I w) (L:∀b o,V.m.get b=some o->I.m.get b=some o)
  (hblk:∀b,cH v=some b->kindOf P o.op= .alloc->V.next.num<=b.num) (ab:pB P G ops A t₀ t₁ I O σ₀.next.num i):J_ P G ih ops A n d fin ρ₀ σ₀ w₀ t₀ l (i::done) t₁ I listed O w a:=by
 obtain⟨hh,W⟩:=hj.ok;obtain⟨f1,f2⟩:=kG hp;have M:ek ops i=o.dst:=gm ho;have am:¬Li listed i:=fun h=>hh.new (hj.sub i h)
 have C:∀j∈done,∀k,ek ops j=some k->t₁.get (posOf k)=t.get (posOf k):=fun j E k hk=>f1 k fun e=>by
  have:=hs.uniq i j k (by rw[M];exact e) hk;subst this;exact hh.new E
 have aa:∀j∈done,¬Li listed j->pB P G ops A t₀ t₁ I O σ₀.next.num j:=fun j E F=>by
  refine((hj.Bs j E F).agree fun k hk=>?_).grow L aq.next;rcases hk with hk | ⟨q,hq,hk⟩
  ·grind
  exact C q (hj.jS j q (kj hk) E hq) k hk
 have ak:∀j o' k' v' b,j∈done->¬Li listed j->ops[j]? =some o'->kindOf P o'.op= .alloc->ek ops j=some k'->t₁.get (posOf k')=some v'->cH v'=some b->b.num<V.next.num:=fun j o' k' v' b E F Q hk hd hv hb=>by
  obtain⟨o'',ti,e,_,_,bw,_,h4,h5⟩:=hj.Bs j E F;rw[Q] at e;cases e;rw[C j E k' hd] at hv;rw[gm Q] at hd;cases bw with
  | false=>rw[h4 Z k' hd] at hv;cases hv;cases hb
  | true=>
   have:=h5 Z
   grind [kQ,yP]
 refine⟨K,W,hinv,hj.LS.trans aq,hj.dr,hj.gr,hj.LV,hj.JE,fun j h=>?_,⟨hh.dep,hj.ord⟩,fun j h=>mC_ _ (hj.sub j h),fun j h hv=>?_,hj.closed,fun j q hq h ha=>?_,fun j h k hk=>?_,fun j k u hL hk hu=>?_,hj.BM,fun k hk=>?_,fun j h F=>?_,?_⟩
 ·rcases cG h with rfl | h
  ·exact hh.lt
  exact hj.Mc j h
 ·rcases cG h with rfl | h
  ·simp_all
  exact hj.jv j h hv
 ·rcases cG h with rfl | h
  ·exact mC_ _<|uE hs hh.lt hh.dep hj.jS q hq ha
  exact mC_ _<|hj.jS j q hq h ha
 ·rcases cG h with rfl | h
  ·simp_all
  exact hj.Nv j h k hk
 ·rw[C j (hj.sub j hL) k hk] at hu;exact hj.BN j k u hL hk hu
 ·rw[f1 k (fun e=>hk i (mS_ ..) (by rw[M];exact e))];exact hj.same k fun j h=>hk j (mC_ _ h)
 ·grind
 intro j q o' o'' k k' u u' b h1 h2 h3 h4 h5 h6 h7 h8 h9 R T U X ac;rcases cG h1 with rfl | m1<;>rcases cG h2 with rfl | m2
 ·rfl
 ·grind
 ·grind
 rw[C j m1 k h9] at T;rw[C q m2 k' R] at U;exact hj.apart j q o' o'' k k' u u' b m1 m2 h3 h4 h5 h6 h7 h8 h9 R T U X ac
theorem Inv.CF (hi:Inv O V w) (ob:bU):yF O (V.alloc ob) w/\dY O V w O (V.alloc ob) w/\∀b o,V.m.get b=some o->(V.alloc ob).m.get b=some o:=by
 have aa:O V.next=none:=(hi.fresh _<|nR_ _).1;have u:∀b,b≠V.next->(V.alloc ob).m.get b=V.m.get b:=fun b hb=>D.cK _ _ _ _ hb
 have back:∀b o l,(V.alloc ob).m.get b=some o->O b=some l->V.m.get b=some o:=fun b o l h hl=>by
  grind
 refine⟨⟨fun b hb=>?_,hi.cH,fun b o l h hl=>hi.obj b o l (back b o l h hl) hl,fun b b' o o' l l' h1 E C h4=>hi.inj b b' o o' l l' (back b o l h1 C) (back b' o' l' E h4) C h4⟩,⟨fun _ _=>Z,?_,nR_ _,fun _ _ _=>Z,?_,Z,Z,Z,nR_ _⟩,fun b o h=>?_⟩
 ·have ab:V.next.num+1<=b.num:=by simpa [B.alloc,Pos.gp] using hb
  have hne:b≠V.next:=fun e=>by subst e;omega
  rw[u b hne];exact hi.fresh b oM
 ·simp[B.alloc,Pos.gp]
 ·rintro r ⟨b,o,l,h1,E,C,rfl⟩ _;exact⟨b,o,l,back b o l h1 C,E,C,Z⟩
 by_cases e:b=V.next
 ·subst e;rw[(hi.fresh _<|nR_ _).2] at h;cases h
 simp_all
theorem Inv.ahead (hi:Inv O V w) (ob:bU):Inv O (V.alloc ob) w/\dY O V w O (V.alloc ob) w/\∀b o,V.m.get b=some o->(V.alloc ob).m.get b=some o:=
 let ⟨h1,u,C⟩:=hi.CF ob;⟨⟨h1,hi.mb.of u⟩,u,C⟩
theorem B.FR (V:B) (ob:bU):(V.alloc ob).m.get V.next=some ob:=D.cN _ _ _
theorem J_.N6 (K:Shape P ops A) {i:Nat} {rc:List Nat} (hj:J_ P G ih ops A n d fin ρ₀ σ₀ w₀ t₀ ((i,rc)::l) done t V listed O w a) (hl:iu P ops i=false) (aa:∀k,fin≠ .err k):
  ∃t₁ C,J_ P G ih ops A n d fin ρ₀ σ₀ w₀ t₀ l (i::done) t₁ C listed O w a:=by
 obtain⟨hh,ab⟩:=hj.ok;obtain⟨o,F⟩:∃o,ops[i]? =some o:=⟨ops[i]' hh.lt,aG_ hh.lt⟩
 have u:(match ops[i]? with
   | some o=>gq P G ih false ops n o t V (fun t' V'=>bif cY P G ops t' V' rc then iQ P G ih ops n d l t' V' else .err 86)
   | none=>.err 87)=fin:=hj.run
 rw[F] at u;dsimp only at u;have hhead:=hj.vq K F hh.new
 have E:∀t₁ C,(bif cY P G ops t₁ C rc then iQ P G ih ops n d l t₁ C else .err 86)=fin->iQ P G ih ops n d l t₁ C=fin:=fun t₁ C h=>by
  grind
 have I:∀{v:Y} {t₁:D Y},dc t n o.dst v=some t₁->∀k∈slotsOf ops o,∀j,qk A i j=true->ek ops j=some k->t.get (posOf k)=t₁.get (posOf k):=fun hp k hk j R M=>by
  refine((kG hp).1 k fun e=>?_).symm;have:=K.uniq i j k (by rw[gm F];exact e) M;subst this;exact hh.new<|uE K hh.lt hh.dep hj.jS i hh.lt R
 unfold gq at u;cases hw:bu ops t o with
 | none=>grind
 | some bw=>
  rw[hw] at u;cases bw with
  | false=>
   dsimp only at u;cases hp:dc t n o.dst unit with
   | none=>grind
   | some t₁=>
    rw[hp] at u;refine⟨t₁,V,hj.ahead K hl F hp (E _ _ u) hj.inv (dY.refl _ _ _) (fun _ _ h=>h) (fun b hb=>by cases hb) ?_⟩;exact⟨o,t,F,I hp,hhead,false,hw,fun _ k hk=>((kG hp).2 k hk).2,fun h=>by cases h⟩
  | true=>
   dsimp only at u
   have main:∀(v:Y) (C:B),jH P G ih (dq P G (aY G t) V o.op)= .ret v C->Inv O C w->dY O V w O C w->(∀b o,V.m.get b=some o->C.m.get b=some o)->
     (∀b,cH v=some b->kindOf P o.op= .alloc->V.next.num<=b.num)->(∀t₁,(∀k,o.dst=some k->t₁.get (posOf k)=some v)->kQ P G t₁ C O σ₀.next.num t o)->
     ∃t₁ C,J_ P G ih ops A n d fin ρ₀ σ₀ w₀ t₀ l (i::done) t₁ C listed O w a:=by
    intro v C he hinv aq L hblk Q;rw[he] at u;dsimp only at u;cases hp:dc t n o.dst v with
    | none=>grind
    | some t₁=>
     rw[hp] at u;refine⟨t₁,C,hj.ahead K hl F hp (E _ _ u) hinv aq L hblk ?_⟩;exact⟨o,t,F,I hp,hhead,true,hw,fun h=>(by cases h),fun _=>Q t₁ fun k hk=>((kG hp).2 k hk).2⟩
   cases hk:kindOf P o.op with
   | jv=>simp[iu,C9,F,hk] at hl
   | pure=>
    cases hv:cS P (aY G t) o.op with
    | none=>
     have:jH P G ih (dq P G (aY G t) V o.op)= .err (Nat.add 1000<|xV o.op):=by unfold dq;rw[hk];dsimp only;rw[hv];rfl
     grind
    | some v=>
     have:jH P G ih (dq P G (aY G t) V o.op)= .ret v V:=by unfold dq;rw[hk];dsimp only;rw[hv];rfl
     refine main v V this hj.inv (dY.refl _ _ _) (fun _ _ h=>h) (fun b _ h=>by rw[hk] at h;cases h) fun t₁ ht₁=>?_
     unfold kQ;simp_all
   | read=>
    cases hv:eE P (aY G t) V o.op with
    | none=>
     have:jH P G ih (dq P G (aY G t) V o.op)= .err (Nat.add 2000<|xV o.op):=by unfold dq;rw[hk];dsimp only;rw[hv];rfl
     grind
    | some v=>
     have:jH P G ih (dq P G (aY G t) V o.op)= .ret v V:=by unfold dq;rw[hk];dsimp only;rw[hv];rfl
     refine main v V this hj.inv (dY.refl _ _ _) (fun _ _ h=>h) (fun b _ h=>by rw[hk] at h;cases h) fun t₁ ht₁=>?_
     unfold kQ;simp_all
   | alloc=>
    cases hv:eF P (aY G t) o.op with
    | none=>
     have:jH P G ih (dq P G (aY G t) V o.op)= .err (Nat.add 3000<|xV o.op):=by unfold dq;rw[hk];dsimp only;rw[hv];rfl
     grind
    | some p=>
     obtain⟨ob,mk⟩:=p;have:jH P G ih (dq P G (aY G t) V o.op)= .ret (mk.of V.next) (V.alloc ob):=by unfold dq;rw[hk];dsimp only;rw[hv];rfl
     obtain⟨g1,T,U⟩:=hj.inv.ahead ob;refine main _ _ this g1 T U (fun b hb _=>by rw[yP] at hb;simp_all) fun t₁ ht₁=>?_
     unfold kQ;rw[hk];exact⟨ob,mk,V.next,hv,B.FR V ob,(hj.inv.fresh _<|nR_ _).1,hj.LS.next,by simp[B.alloc,Pos.gp],ht₁⟩
theorem J_.advance (m:Shape P ops A) (b:∀k,fin≠ .err k):∀(l:List (Nat×List Nat)) (done:List Nat) (t:D Y) (V:B),J_ P G ih ops A n d fin ρ₀ σ₀ w₀ t₀ l done t V listed O w a->
  ∃l' done' t' V',J_ P G ih ops A n d fin ρ₀ σ₀ w₀ t₀ l' done' t' V' listed O w a/\(l'= []∨∃i rc r,l'=(i,rc)::r/\iu P ops i=true)
 | [],done,t,V,hj=>⟨[],done,t,V,hj,.inl Z⟩
 | (i,rc)::l,done,t,V,hj=>by
  cases hl:iu P ops i with
  | true=>exact⟨_,done,t,V,hj,.inr ⟨i,rc,l,Z,hl⟩⟩
  | false=>
   obtain⟨t₁,u,hj₁⟩:=hj.N6 m hl b;exact J_.advance m b l _ t₁ u hj₁
end
section
variable {P:Program} {G:Cx} {ih:iK} {ops:Array Oper} {A:Array Nat} {n:Nat} {d:List DE} {fin:CR} {ρ₀:Ren} {σ₀:B} {w₀:World} {t₀:D Y}
variable {l:List (Nat×List Nat)} {done:List Nat} {t:D Y} {V:B} {listed:Array Bool} {O:Ren} {w:World} {a:Act}
theorem J_.behind (K:Shape P ops A) (hj:J_ P G ih ops A n d fin ρ₀ σ₀ w₀ t₀ l done t V listed O w a) {i:Nat} {o:Oper} {x:Value} {ρ₁:Ren} {w₁:World} (L:ops[i]? =some o) (E:i∈done) (hn:¬Li listed i)
  (hr:∀j,j<ops.size->qk A i j=true->Li listed j) (hv:∀k v,o.dst=some k->t.get (posOf k)=some v->VR ρ₁ v x) (hinv:Inv ρ₁ V w₁) (aq:dY ρ₀ σ₀ w₀ ρ₁ V w₁) (hle:O.le ρ₁)
  (aa:∀j∈done,¬Li listed j->j≠i->pB P G ops A t₀ t V ρ₁ σ₀.next.num j):J_ P G ih ops A n d fin ρ₀ σ₀ w₀ t₀ l done t V (listed.setIfInBounds i true) ρ₁ w₁ (a.put o.dst x):=by
 have F:i<listed.size:=by rw[hj.JE];exact hj.Mc i E
 have C:ek ops i=o.dst:=gm L;obtain⟨I,M,Q⟩:=II (a:=a) (dst:=o.dst) (x:=x);have m:∀{j},Li (listed.setIfInBounds i true) j↔j=i∨Li listed j:=Cr F
 refine⟨hj.run,hj.ok,hinv,aq,by rw[put_defers];exact hj.dr.mono hle,hj.gr.mono hle,by rw[Q];exact hj.LV,by simpa using hj.JE,hj.Mc,hj.ord,fun j h=>?_,fun j h hh=>m.2 (.inr<|hj.jv j h hh),fun j q hq h R=>?_,hj.jS,hj.Nv,
  fun j k v h hk hu=>?_,fun k v h hu=>?_,hj.same,fun j h hl=>?_,?_⟩
 ·rcases m.1 h with rfl | h
  ·exact E
  exact hj.sub j h
 ·rcases m.1 h with rfl | h
  ·simp_all
  exact m.2 (.inr<|hj.closed j q hq h R)
 ·by_cases e:j=i
  ·subst e;rw[C] at hk;rw[M k hk (by rw[hj.LV];exact hj.Nv j E k (by rw[C];exact hk))];exact hv k v hk hu
  have hL:=(m.1 h).resolve_left e;rw[I k (fun e'=>e (K.uniq j i k hk (by rw[C];exact e')))];exact VR.mono hle _ _<|hj.BN j k v hL hk hu
 ·rw[I k (fun e'=>h i (m.2 (.inl Z)) (by rw[C];exact e'))];obtain⟨q1,q2⟩:=hj.BM k v (fun j hL=>h j (m.2 (.inr hL))) hu;exact⟨q1,VR.mono hle _ _ q2⟩
 ·simp_all
 intro j q o' o'' k k' u u' b h1 T U h4;exact hj.apart j q o' o'' k k' u u' b h1 T (fun hL=>U (m.2 (.inr hL))) (fun hL=>h4 (m.2 (.inr hL)))
theorem rQ {t₁:D Y} {b:B}:∀{rc:List Nat} {j:Nat},cY P G ops t₁ b rc=true->j∈rc->jd P G ops t₁ b j=true
 | [],j,_,hj=>by cases hj
 | i::rc,j,h,hj=>by
  have h':(bif jd P G ops t₁ b i then cY P G ops t₁ b rc else false)=true:=h;rw[a6] at h';split at h'
  ·rename_i hi;rcases cG hj with rfl | hj
   ·exact hi
   exact rQ h' hj
  cases h'
theorem J_.GG (X:Shape P ops A) {i:Nat} {rc:List Nat} (hj:J_ P G ih ops A n d fin ρ₀ σ₀ w₀ t₀ ((i,rc)::l) done t V listed O w a) (hl:iu P ops i=true) {o:Oper} (ho:ops[i]? =some o)
  (hr:∀j,j<ops.size->qk A i j=true->Li listed j) {v:Y} {x:Value} {t₁:D Y} {L:B} {ρ₁:Ren} {w₁:World} (hp:dc t n o.dst v=some t₁) (I:cY P G ops t₁ L rc=true) (M:iQ P G ih ops n d l t₁ L=fin)
  (hv:VR ρ₁ v x) (hinv:Inv ρ₁ L w₁) (aq:dY O V w ρ₁ L w₁):J_ P G ih ops A n d fin ρ₀ σ₀ w₀ t₀ l (i::done) t₁ L (listed.setIfInBounds i true) ρ₁ w₁ (a.put o.dst x):=by
 obtain⟨hh,aa⟩:=hj.ok;obtain⟨f1,f2⟩:=kG hp;have hle:=aq.le hj.inv;have ab:i<listed.size:=by rw[hj.JE];exact hh.lt
 have E:ek ops i=o.dst:=gm ho;obtain⟨p1,p2,p3⟩:=II (a:=a) (dst:=o.dst) (x:=x);have m:∀{j},Li (listed.setIfInBounds i true) j↔j=i∨Li listed j:=Cr ab;have ao:¬Li listed i:=fun h=>hh.new (hj.sub i h)
 have C:∀j∈done,∀k,ek ops j=some k->t₁.get (posOf k)=t.get (posOf k):=fun j F k hk=>f1 k fun e=>by
  have:=X.uniq i j k (by rw[E];exact e) hk;subst this;exact hh.new F
 refine⟨M,aa,hinv,hj.LS.trans aq,by rw[put_defers];exact hj.dr.mono hle,hj.gr.mono hle,by rw[p3];exact hj.LV,by simpa using hj.JE,fun j h=>?_,⟨hh.dep,hj.ord⟩,fun j h=>?_,fun j h hv=>?_,fun j q hq h K=>?_,fun j q hq h K=>?_,fun j h k hk=>?_,
  fun j k u h hk hu=>?_,fun k u h hu=>?_,fun k hk=>?_,fun j h Q=>?_,?_⟩
 ·rcases cG h with rfl | h
  ·exact hh.lt
  exact hj.Mc j h
 ·rcases m.1 h with rfl | h
  ·simp_all
  exact mC_ _<|hj.sub j h
 ·rcases cG h with rfl | h
  ·simp_all
  exact m.2 (.inr<|hj.jv j h hv)
 ·rcases m.1 h with rfl | h
  ·simp_all
  exact m.2 (.inr<|hj.closed j q hq h K)
 ·rcases cG h with rfl | h
  ·exact mC_ _<|uE X hh.lt hh.dep hj.jS q hq K
  exact mC_ _<|hj.jS j q hq h K
 ·rcases cG h with rfl | h
  ·simp_all
  exact hj.Nv j h k hk
 ·by_cases e:j=i
  ·subst e;rw[E] at hk;obtain⟨q1,q2⟩:=f2 k hk;rw[p2 k hk (by rw[hj.LV];exact q1)]
   simp_all
  have hL:=(m.1 h).resolve_left e;rw[p1 k (fun e'=>e (X.uniq j i k hk (by rw[E];exact e')))];rw[C j (hj.sub j hL) k hk] at hu;exact VR.mono hle _ _<|hj.BN j k u hL hk hu
 ·rw[p1 k (fun e'=>h i (m.2 (.inl Z)) (by rw[E];exact e'))];obtain⟨q1,q2⟩:=hj.BM k u (fun j hL=>h j (m.2 (.inr hL))) hu;exact⟨q1,VR.mono hle _ _ q2⟩
 ·rw[f1 k (fun e=>hk i (mS_ ..) (by rw[E];exact e))];exact hj.same k fun j h=>hk j (mC_ _ h)
 ·have ac:j≠i:=fun e=>Q (m.2 (.inl e))
  have R:¬Li listed j:=fun hL=>Q (m.2 (.inr hL))
  have F:j∈done:=(cG h).resolve_left ac;refine(hj.Bs j F R).again X (fun k hk=>?_) (fun k hk=>?_) (fun ak=>?_) (fun b hb=>aq.ext b hb) aq.next
  ·rcases hk with hk | ⟨q,hq,hk⟩
   ·grind
   exact C q (hj.jS j q (kj hk) F hq) k hk
  ·rw[f1 k (fun e=>hk i (by rw[E];exact e))];exact hj.same k fun j _=>hk j
  rcases hh.again hl j F ak with K | hm
  ·exact absurd (hr j (hj.Mc j F) K) R
  exact rQ I hm
 intro j q o' o'' k k' u u' b h1 h2 h3 h4 h5 h6 h7 h8 h9 T U W am an;have m1:j∈done:=(cG h1).resolve_left fun e=>h3 (m.2 (.inl e))
 have m2:q∈done:=(cG h2).resolve_left fun e=>h4 (m.2 (.inl e))
 rw[C j m1 k h9] at U;rw[C q m2 k' T] at W;exact hj.apart j q o' o'' k k' u u' b m1 m2 (fun hL=>h3 (m.2 (.inr hL))) (fun hL=>h4 (m.2 (.inr hL))) h5 h6 h7 h8 h9 T U W am an
theorem BA {i:Nat} (m:listed.size=ops.size) (h:i∈Region.ready .any ops listed):i<ops.size/\¬Li listed i/\∀j,waits ops i j=true->Li listed j:=by
 obtain⟨h1,o,u,C⟩:=mem_ready.1 h;have hlt:=(aS_.1 u).1;refine⟨hlt,(Iq (by rw[m];exact hlt)).1 h1,fun j hw=>?_⟩;obtain⟨o',b,e,he,hb,rfl⟩:=pz.1 hw;rw[u] at b;cases b;exact C e he hb
theorem Bz {i:Nat} (m:listed.size=ops.size) (b:i<ops.size) (u:¬Li listed i) (hw:∀j,waits ops i j=true->Li listed j):i∈Region.ready .any ops listed:=
 mem_ready.2 ⟨(Iq (by rw[m];exact b)).2 u,ops[i]' b,aG_ b,fun e he hb=>hw _ (pz.2 ⟨_,aG_ b,e,he,hb,Z⟩)⟩
theorem xW:∀{done:List Nat},Ord ops done->(∃i∈done,¬Li listed i)->∃i∈done,¬Li listed i/\∀j,waits ops i j=true->Li listed j
 | [],_,⟨i,hi,_⟩=>by cases hi
 | i::r,m,⟨q,hq,C⟩=>by
  by_cases u:∃j∈r,¬Li listed j
  ·obtain⟨j,h1,h2,h3⟩:=xW m.2 u
   grind
  have b:∀j∈r,Li listed j:=fun j hj=>Classical.byContradiction fun h=>u ⟨j,hj,h⟩
  rcases cG hq with rfl | hq
  ·exact⟨q,mS_ ..,C,fun j hw=>b j (m.1 j hw)⟩
  simp_all
theorem J_.all (hs:Shape P ops A) (hj:J_ P G ih ops A n d fin ρ₀ σ₀ w₀ t₀ l done t V listed O w a) (hr:Region.ready .any ops listed= []):∀i,i<ops.size->Li listed i:=by
 have b:∀i∈done,Li listed i:=fun i hi=>Classical.byContradiction fun h=>by
  obtain⟨q,h1,m,u⟩:=xW hj.ord ⟨i,hi,h⟩;have:=Bz hj.JE (hj.Mc q h1) m u
  simp_all
 intro i hi;cases l with
 | nil=>
  have:=hj.ok;exact b i<|this i hi
 | cons p l=>
  obtain⟨q,rc⟩:=p;obtain⟨hh,_⟩:=hj.ok;have:=Bz (listed:=listed) hj.JE hh.lt (fun h=>hh.new (hj.sub q h)) (fun j hw=>b j (hh.dep j hw))
  simp_all
theorem J_.finish (hs:Shape P ops A) (hj:J_ P G ih ops A n d fin ρ₀ σ₀ w₀ t₀ l done t V listed O w a) (b:∀i,i<ops.size->Li listed i):fin= .ok .normal t d V/\TR O t n a.tmps:=by
 cases l with
 | nil=>
  refine⟨hj.run.symm,hj.LV,fun k v hv=>?_⟩
  by_cases hw:∃i,ek ops i=some k
  ·obtain⟨i,hi⟩:=hw;have hL:=b i (kj hi);exact⟨hj.Nv i (hj.sub i hL) k hi,hj.BN i k v hL hi hv⟩
  rw[hj.same k fun i _ hi=>hw ⟨i,hi⟩] at hv;exact hj.BM k v (fun i _ hi=>hw ⟨i,hi⟩) hv
 | cons p l=>
  obtain⟨q,rc⟩:=p;obtain⟨hh,_⟩:=hj.ok;exact absurd (hj.sub q<|b q hh.lt) hh.new
def left (N_:Nat) (listed:Array Bool):Nat:=(List.range N_).countP fun i=> !listed.getD i false
theorem xD {α:Type} {p q:α->Bool}:∀{l:List α} {x:α},(∀y∈l,q y=true->p y=true)->x∈l->p x=true->q x=false->l.countP q<l.countP p
 | [],x,_,hx,_,_=>by cases hx
 | y::l,x,h,hx,hp,hq=>by
  have hle:l.countP q<=l.countP p:=List.countP_mono_left fun z hz=>h z (mC_ _ hz)
  rcases cG hx with rfl | hx
  ·grind
  have:=xD (fun z hz=>h z (mC_ _ hz)) hx hp hq
  grind
theorem H7 {N_ i:Nat} (hi:i<N_) (b:listed.size=N_) (m:¬Li listed i):left N_ (listed.setIfInBounds i true)<left N_ listed:=by
 refine xD (x:=i) (fun y _ hy=>?_) (List.mem_range.2 hi) ?_ ?_
 ·by_cases h:Li listed y
  ·have:Li (listed.setIfInBounds i true) y:=(Cr (by rw[b];exact hi)).2 (.inr h);unfold Li at this
   simp_all
  unfold Li at h;simpa using h
 ·unfold Li at m;simpa using m
 simp_all
theorem F0 {N_:Nat} (h:left N_ listed=0):∀i,i<N_->Li listed i:=fun i hi=>by
 have:=List.countP_eq_zero.1 h i (List.mem_range.2 hi);unfold Li;simpa using this
theorem Inv.lay (hi:Inv O V w) {b:Pos} {l:Loc} {ob:bU} {x:Obj} (hb:V.m.get b=some ob) (hn:O b=none) (aa:b.num<V.next.num) (hl:l.cH=w.heap.size) (L:fm O l ob x):Inv (O.with b l) V (w.alloc x)/\O.le (O.with b l):=by
 have hle:O.le (O.with b l):=fun b' l' u=>by
  grind [Ren.dt]
 have hold:∀b' l',b'≠b->(O.with b l) b'=some l'->O b'=some l':=fun b' l' hne h=>by rwa[Ren.dt O l hne] at h
 have E:Old (O.with b l) V (w.alloc x):=by
  refine⟨by have:=hi.mb.size;simp;omega,fun r I=>by rw[heap_alloc_old w x<|Nat.lt_of_lt_of_le I hi.mb.size];exact hi.mb.same r I,fun r I ⟨b',o',l',h1,K,C,h4⟩=>?_⟩
  by_cases e:b'=b
  ·subst e;rw[Ren.bQ] at C;cases C;have:=hi.mb.size;omega
  exact hi.mb.no r I ⟨b',o',l',h1,K,hold b' l' e C,h4⟩
 refine⟨⟨⟨fun b' u=>?_,fun b' l' u=>?_,fun b' o' l' u F=>?_,fun b₁ b₂ o₁ o₂ l₁ l₂ h1 K C h4 h5 M=>?_⟩,E⟩,hle⟩
 ·have hne:b'≠b:=fun e=>by subst e;omega
  rw[Ren.dt O l hne];exact hi.fresh b' u
 ·simp only[World.size_alloc]
  by_cases e:b'=b
  ·subst e;rw[Ren.bQ] at u;cases u;omega
  have:=hi.cH b' l' (hold b' l' e u);omega
 ·by_cases e:b'=b
  ·subst e;rw[Ren.bQ] at F;cases F;rw[hb] at u;cases u;exact⟨x,by rw[hl];exact heap_alloc_new w x,L.mono hle⟩
  have h':=hold b' l' e F;obtain⟨y,hy,I⟩:=hi.obj b' o' l' u h';exact⟨y,by rw[heap_alloc_old w x<|hi.cH b' l' h'];exact hy,I.mono hle⟩
 by_cases e1:b₁=b<;>by_cases e2:b₂=b
 ·simp_all
 ·subst e1;rw[Ren.bQ] at C;cases C;have:=hi.cH b₂ l₂ (hold b₂ l₂ e2 h4);omega
 ·subst e2;rw[Ren.bQ] at h4;cases h4;have:=hi.cH b₁ l₁ (hold b₁ l₁ e1 C);omega
 exact hi.inj b₁ b₂ o₁ o₂ l₁ l₂ h1 K (hold b₁ l₁ e1 C) (hold b₂ l₂ e2 h4) h5 M
theorem dY.lay (aq:dY ρ₀ σ₀ w₀ O V w) {b:Pos} {l:Loc} {x:Obj} (aa:σ₀.next.num<=b.num) (hl:l.cH=w.heap.size):dY ρ₀ σ₀ w₀ (O.with b l) V (w.alloc x):=by
 refine⟨fun b' u=>?_,aq.next,by have:=aq.size;simp;omega,fun r C E=>?_,?_,aq.tape,aq.os,aq.out⟩
 ·rw[Ren.dt O l (fun e=>by subst e;omega)];exact aq.ext b' u
 ·rw[heap_alloc_old w x (by have:=aq.size;omega)];exact aq.frame r C E
 rintro r ⟨b',o',l',h1,F,m,rfl⟩ C
 by_cases e:b'=b
 ·subst e;rw[Ren.bQ] at m;cases m;have:=aq.size;omega
 rw[Ren.dt O l e] at m;exact aq.wr _ ⟨b',o',l',h1,F,m,Z⟩ C
theorem J_.take (L:Shape P ops A) (hj:J_ P G ih ops A n d fin ρ₀ σ₀ w₀ t₀ l done t V listed O w a) {i:Nat} (F:i∈done) (M:¬Li listed i) (hw:∀j,waits ops i j=true->Li listed j) (rl:Option Nat) (m:Nat) {Q:Exit->Act->World->Prop} {K:Act->World->Prop}
  (W:∀ρ₁ w₁ a₁,J_ P G ih ops A n d fin ρ₀ σ₀ w₀ t₀ l done t V (listed.setIfInBounds i true) ρ₁ w₁ a₁->K a₁ w₁):wpOpIn (jT rl) m P ops Q i K a w:=by
 have hr:=uF L (hj.Mc i F) hw hj.closed;obtain⟨o,ti,I,h1,h2,bw,h3,h4,h5⟩:=hj.Bs i F M;have hlook:=hj.look L I M hr h1 h2;unfold wpOpIn;rw[I];dsimp only;rw[tB hj.LV hlook h3];cases bw with
 | false=>
  simp only[Bool.false_eq_true,if_false];exact⟨fun f _=>kW rl f,W O w _<|hj.behind L I F M hr (fun k v hk hv=>by rw[h4 Z k hk] at hv;cases hv;exact tY) hj.inv hj.LS (fun _ _ h=>h) fun j C E _=>hj.Bs j C E⟩
 | true=>
  simp only[if_true];have X:ER O (aY G ti) a.eval o.op:=EF hj.gr hlook;have hv:=h5 Z;unfold kQ at hv;have R:kindOf P o.op≠ .jv->∀c,o.op≠ .defer c:=fun hk c e=>hk (by rw[e];rfl)
  unfold Oper.wpIn;refine⟨fun f _=>kW rl f,?_⟩;cases hk:kindOf P o.op with
  | jv=>simp_all
  | pure=>
   rw[hk] at hv;obtain⟨v,g1,g2⟩:=hv;obtain⟨x,hx,T⟩:=wh (P:=P) (w:=w) X g1;rw[Oper.semAt_eq _ _ _<|R (by rw[hk];simp),hx,Oper.uponIn_value];exact W O w _<|hj.behind L I F M hr (fun k u hk hu=>by simp_all) hj.inv hj.LS (fun _ _ h=>h) fun j C E _=>hj.Bs j C E
  | read=>
   rw[hk] at hv;obtain⟨v,g1,g2⟩:=hv;obtain⟨x,hx,T⟩:=wk (P:=P) hj.inv X g1;rw[Oper.semAt_eq _ _ _<|R (by rw[hk];simp),hx,Oper.uponIn_value];exact W O w _<|hj.behind L I F M hr (fun k u hk hu=>by simp_all) hj.inv hj.LS (fun _ _ h=>h) fun j C E _=>hj.Bs j C E
  | alloc=>
   rw[hk] at hv;obtain⟨ob,mk,b,g1,g2,g3,g4,g5,g6⟩:=hv;obtain⟨x,ob',c,hx,ak,aa,T⟩:=s9 (P:=P) (w:=w) X g1;rw[Oper.semAt_eq _ _ _<|R (by rw[hk];simp),hx,Oper.uponIn_value];obtain⟨inv,hle⟩:=hj.inv.lay (l:=⟨w.heap.size,0,c⟩) g2 g3 g5 Z aa;obtain⟨kd,U⟩:=L.dst i o I (by simp[fc,sD,I,hk]);refine W _ _ _<|hj.behind L I F M hr (fun k u hk hu=>by grind [Ren.bQ]) inv (hj.LS.lay g4 Z) hle fun j C E ab=>?_;refine(hj.Bs j C E).QT L fun b' ac hb'n=>?_
   obtain⟨o',k',v',q1,q2,q3,q4,q5⟩:=ac;rw[Ren.dt]
   ·exact hb'n
   intro e;subst e;exact ab<|hj.apart j i o' o k' kd v' (mk.of b') b' C F E M q1 I q2 hk q3 (by rw[gm I];exact U) q4 (g6 kd U) q5<|yP mk b'
theorem Hw (F:Shape P ops A) (hS:Sound P G ih) (rl:Option Nat) (m:Nat) {Q:Exit->Act->World->Prop} {e:Ex} {t':D Y} {d':List DE} {V':B} (C:fin= .ok e t' d' V')
  (hQ:∀(O':Ren) (w':World) (a':Act),Inv O' V' w'->dY ρ₀ σ₀ w₀ O' V' w'->TR O' t' n a'.tmps->DR O' d' a'.defers->Qx Q O' e a' w'):
  ∀(fuel:Nat) (l:List (Nat×List Nat)) (done:List Nat) (t:D Y) (V:B) (listed:Array Bool) (O:Ren) (w:World) (a:Act),J_ P G ih ops A n d fin ρ₀ σ₀ w₀ t₀ l done t V listed O w a->left ops.size listed<=fuel->
   wpAnyIn (jT rl) m P .any ops Q fuel listed a w:=by
 have I:∀{l done t V listed O w a},J_ P G ih ops A n d fin ρ₀ σ₀ w₀ t₀ l done t V listed O w a->Region.ready .any ops listed= []->Q .normal a w:=fun {l done t V listed O w a} hj hr=>by
  obtain⟨h1,U⟩:=hj.finish F (hj.all F hr);rw[C] at h1;cases h1;exact hQ O w a hj.inv hj.LS U hj.dr _ Z
 intro fuel;induction fuel with
 | zero=>
  intro l done t V listed O w a hj hf;have hall:=F0 (Nat.le_zero.1 hf)
  have hr:Region.ready .any ops listed= []:=by
   apply List.eq_nil_iff_forall_not_mem.2;intro i hi;obtain⟨h1,U,_⟩:=BA hj.JE hi;exact U<|hall i h1
  exact⟨hr,I hj hr⟩
 | succ fuel ihf=>
  intro l done t V listed O w a hj hf;refine⟨fun hr=>I hj hr,fun i hi=>?_⟩;obtain⟨l,done,t,V,hj,K⟩:=J_.advance F (fun k=>by rw[C];simp) l done t V hj;obtain⟨u,X,hw⟩:=BA hj.JE hi;have L:left ops.size (listed.setIfInBounds i true)<=fuel:=by have:=H7 u hj.JE X;omega
  by_cases M:i∈done
  ·exact hj.take F M X hw rl m fun ρ₁ w₁ a₁ hj₁=>ihf _ _ _ _ _ _ _ _ hj₁ L
  
  rcases K with rfl | ⟨q,rc,r,rfl,hl⟩
  ·have:=hj.ok;exact absurd (this i u) M
  obtain⟨hh,_⟩:=hj.ok
  have aa:i=q:=Classical.byContradiction fun hne=>by
   obtain⟨x,h1,U⟩:=hh.alone hl i u M hne;exact U<|hj.sub x<|hw x h1
  subst aa;have hr:=uF F u hw hj.closed;obtain⟨o,T⟩:∃o,ops[i]? =some o:=⟨ops[i]' u,aG_ u⟩;have hlook:=hj.look F T X hr (ti:=t) (fun _ _ _ _ _=>Z) (hj.vq F T hh.new)
  have b:(match ops[i]? with
   | some o=>gq P G ih false ops n o t V (fun t' V'=>bif cY P G ops t' V' rc then iQ P G ih ops n d r t' V' else .err 86)
   | none=>.err 87)=fin:=hj.run
  rw[T,C] at b;dsimp only at b
  have E:∀t₁ R,(bif cY P G ops t₁ R rc then iQ P G ih ops n d r t₁ R else .err 86)= .ok e t' d' V'->cY P G ops t₁ R rc=true/\iQ P G ih ops n d r t₁ R=fin:=fun t₁ R h=>by
   grind
  unfold gq at b;unfold wpOpIn;rw[T];dsimp only;cases W:bu ops t o with
  | none=>simp_all
  | some bw=>
   rw[W] at b;rw[tB hj.LV hlook W];cases bw with
   | false=>
    dsimp only at b;simp only[Bool.false_eq_true,if_false];cases hp:dc t n o.dst unit with
    | none=>simp_all
    | some t₁=>
     rw[hp] at b;obtain⟨c1,c2⟩:=E _ _ b;exact⟨fun f _=>kW rl f,ihf _ _ _ _ _ _ _ _ (hj.GG F hl T hr hp c1 c2 tY hj.inv<|dY.refl _ _ _) L⟩
   | true=>
    dsimp only at b;simp only[if_true];cases he:jH P G ih (dq P G (aY G t) V o.op) with
    | err k=>simp_all
    | iP v R=>rw[he] at b;cases b
    | ret v R=>
     rw[he] at b;dsimp only at b;cases hp:dc t n o.dst v with
     | none=>simp_all
     | some t₁=>
      rw[hp] at b;obtain⟨c1,c2⟩:=E _ _ b;exact Bo hS hj.inv hj.gr (EF hj.gr hlook) he rl m fun ρ₁ w₁ x inv st hv=>ihf _ _ _ _ _ _ _ _ (hj.GG F hl T hr hp c1 c2 hv inv st) L
end
section
variable {P:Program} {G:Cx}
theorem gS {b:Frame} {a:Act} {k:List Item} {cs:List Frame} {w:World} {c:Code}:step P (lone (b.atR a (.code (.scope c)::k)) cs w)= .next (lone (b.atR a (.code c:: .inScope c::k)) cs w):=
 step_lone_go (by simp[stepG,stepG.exec,Frame.atR])
theorem xl {b:Frame} {a:Act} {k:List Item} {cs:List Frame} {w:World} {c:Code}:step P (lone (b.atR a (.inScope c::k)) cs w)= .next (lone (b.atR a k) cs w):=
 step_lone_go (by simp[stepG,stepG.exec,Frame.atR])
theorem D3 {F:Fence} {n:Nat} {c:Code} {Q:Exit->Act->World->Prop} {a:Act} {w:World} (h:c.wpIn F n P (Exit.noGoto Q) a w):(Code.scope c).wpIn F n P Q a w:=by
 intro b k cs m hb u;have h0:(lone (b.atR a (.code (.scope c)::k)) cs w).fenced P F:=fenced_calm hb u Z;obtain⟨e,a₁,w₁,hq,d⟩:=h b (.inScope c::k) cs m hb u;cases e with
 | normal=>exact⟨.normal,a₁,w₁,hq,.head h0 gS<|StepsIn.trans d (.one (fenced_calm hb u Z) xl)⟩
 | exit id'=>
  have hx:exitTo id' (.inScope c::k)=exitTo id' k:=by simp[exitTo]
  exact⟨.exit id',a₁,w₁,hq,fun k' hk=>.head h0 gS (d.1 k' (by rw[hx];exact hk)),
   fun A hk=>let ⟨k₁,h1,C⟩:=d.2 A (by rw[hx];exact hk);⟨k₁,h1,.head h0 gS C⟩⟩
 | goto l=>exact hq.elim
 | ret=>exact⟨_,a₁,w₁,hq,.of_steps (.one h0 gS) d⟩
 | panic ch=>exact⟨_,a₁,w₁,hq,.of_steps (.one h0 gS) d⟩
 | outgrown=>exact⟨_,a₁,w₁,hq,.of_steps (.one h0 gS) d⟩
theorem iY {N_ i:Nat}:¬Li (Array.replicate N_ false) i:=by
 unfold Li;rw[Array.getD_eq_getD_getElem?,Array.getElem?_replicate];split<;>simp
theorem CY {ih:iK} (E:Sound P G ih) {ops:Array Oper} {n:Nat} {d:List DE} {t:D Y} {V:B} {e:Ex} {t':D Y} {d':List DE} {V':B} (h:tl P G ih ops n d t V= .ok e t' d' V')
  {O:Ren} {w:World} {a:Act} (hi:Inv O V w) (F:GR O G) (C:TR O t n a.tmps) (hd:DR O d a.defers) (rl:Option Nat) (m:Nat) {Q:Exit->Act->World->Prop}
  (I:∀(O':Ren) (w':World) (a':Act),Inv O' V' w'->dY O V w O' V' w'->TR O' t' n a'.tmps->DR O' d' a'.defers->Qx Q O' e a' w'):
  wpAnyIn (jT rl) m P .any ops Q ops.size (Array.replicate ops.size false) a {w with drawn:=w.drawn+1}:=by
 unfold tl at h;rw[a6] at h;split at h
 ·rename_i K;obtain⟨L,u⟩:=J5 K;refine Hw (A:=yL P ops) (n:=n) (d:=d) (t₀:=t) (ρ₀:=O) (σ₀:=V) (w₀:=w) L E rl m Z I ops.size (jz P ops) [] t V _ O _ a ?_ ?_
  ·refine⟨h,u,hi.drew,dY.drew O V w,hd,F,C.1,by simp,fun i hi=>(by cases hi),trivial,fun i b=>absurd b iY,fun i hi=>(by cases hi),fun i j _ b=>absurd b iY,fun i j _ hi=>(by cases hi),fun i hi=>(by cases hi),
    fun i k v b=>absurd b iY,fun k v _ hv=>C.2 k v hv,fun _ _=>Z,fun i hi=>(by cases hi),?_⟩
   simp_all
  exact Nat.le_trans List.countP_le_length (by simp)
 cases h
theorem AG {ro:Option Pos} {rl:Option Nat} {d d₁:List DE} {V A:B} {df:Pos} {O:Ren} {w:World} {a:Act} {t:D Y} {n:Nat} (h:vK ro d V=some (df,A,d₁)) (hi:Inv O V w) (K:TR O t n a.tmps) (hd:DR O d a.defers) (C:RO O ro rl)
  (fn:FuncId) (ps:Array Tmp) (assign body:Code):
  ∃l mark w₁ ρ₁,(Instr.enterLoop fn a.tmps ps assign body rl).run P w= .ok (l,mark) w₁/\Inv ρ₁ (A.alloc (.loop .ready none t n ps.toList assign body df)) w₁/\dY O V w ρ₁ (A.alloc (.loop .ready none t n ps.toList assign body df)) w₁/\
   ρ₁ A.next=some ⟨l,0,0⟩/\DR ρ₁ d₁ (mark++a.defers):=by
 unfold vK at h;cases ro with
 | none=>
  cases rl with
  | some _=>exact C.elim
  | none=>
  cases h;obtain⟨E,L⟩:=hi.alloc (o:=.mark) (x:=.deferred<|some []) (l:=⟨w.heap.size,0,0⟩) Z Z;have hle1:=L.le hi
  obtain⟨F,u⟩:=E.alloc (o:=.loop .ready none t n ps.toList assign body V.next) (x:=.loop {state:=.ready,pending:=none,fn:=fn,tmps:=a.tmps,params:=ps,assign:=assign,body:=body,defers:=w.heap.size}) (l:=⟨w.heap.size+1,0,0⟩) (by simp)
   ⟨fn,a.tmps,⟨w.heap.size,0,0⟩,by simp,Ren.bQ _ _ _,K.mono hle1⟩
  refine⟨_,_,_,_,run_enterLoop_outer fn a.tmps ps assign body,F,L.trans u,Ren.bQ _ _ _,?_⟩;exact⟨⟨w.heap.size,0,0⟩,a.defers,u.le E _ _<|Ren.bQ _ _ _,Z,hd.mono (fun b l hb=>u.le E _ _ (hle1 b l hb))⟩
 | some b=>
  cases rl with
  | none=>exact C.elim
  | some l₀=>
  obtain⟨loc,hl,rfl⟩:=C;dsimp only at h;cases hb:V.m.get b with
  | none=>rw[hb] at h;cases h
  | some ob=>
  rw[hb] at h;cases ob with
  | loop st p tmps n' ps' as' bd df'=>
   cases h;obtain⟨x,hh,fn',tmps',l',rfl,I,aa⟩:=hi.obj b _ loc hb hl
   obtain⟨F,u⟩:=hi.alloc (o:=.loop .ready none t n ps.toList assign body df) (x:=.loop {state:=.ready,pending:=none,fn:=fn,tmps:=a.tmps,params:=ps,assign:=assign,body:=body,defers:=l'.cH}) (l:=⟨w.heap.size,0,0⟩) Z
    ⟨fn,a.tmps,l',by simp,I,K⟩
   exact⟨_,_,_,_,run_enterLoop_inner hh fn a.tmps ps assign body,F,u,Ren.bQ _ _ _,hd.mono<|u.le hi⟩
  | _=>cases h
theorem wI {K:Act->World->Prop} {Q:Exit->Act->World->Prop} {O:Ren} {e:Ex} {a:Act} {w:World} (he:e≠ .normal) (h:Qx Q O e a w):Qx (Exit.then K Q) O e a w:=by
 intro E b;have h':=h E b;cases e with
 | normal=>exact absurd Z he
 | iP v=>obtain⟨x,rfl,_⟩:=b;exact h'
 | exit i=>have b:E= .exit i:=b;subst b;exact h'
 | goto i=>have b:E= .goto i:=b;subst b;exact h'
 | ret=>have b:E= .ret:=b;subst b;exact h'
theorem Bw {ih:iK} (hS:Sound P G ih) {g:Operand} {ps:Array Tmp} {assign body:Code} {t:D Y} {n:Nat} {d:List DE} {ro:Option Pos} {V:B} {e:Ex} {t':D Y} {d':List DE} {V':B}
  (h:sO P G ih g ps assign body t n d ro V= .ok e t' d' V') {O:Ren} {w:World} {a:Act} {rl:Option Nat} {m:Nat} {Q:Exit->Act->World->Prop} (hi:Inv O V w) (M:GR O G) (F:TR O t n a.tmps) (hd:DR O d a.defers) (hr:RO O ro rl)
  (hQ:∀(O':Ren) (w':World) (a':Act),Inv O' V' w'->dY O V w O' V' w'->TR O' t' n a'.tmps->DR O' d' a'.defers->Qx Q O' e a' w'):(Code.rangeFunc g ps assign body).wpIn (jT rl) m P Q a w:=by
 unfold sO at h;cases hm:vK ro d V with
 | none=>rw[hm] at h;cases h
 | some q=>
 obtain⟨df,A,d₁⟩:=q;rw[hm] at h;dsimp only at h;cases hv:aY G t g with
 | none=>rw[hv] at h;cases h
 | some fv=>
 rw[hv] at h;cases fv with
 | func f fi ca=>
  dsimp only at h;rw[a6] at h;split at h
  ·rename_i R;refine wpIn_rangeFunc fun fn _=>?_
   obtain⟨l,mark,w₁,ρ₁,g1,I,g3,g4,g5⟩:=AG (P:=P) hm hi F hd hr fn ps assign body;have hle:=g3.le hi;have hfv:=gH (a:=a) M F hv;simp only[VR] at hfv;obtain⟨fi',ca',T,U,W⟩:=hfv
   have C:(resolve a.eval (rangeCall g l) 0).run P w₁= .ok {target:=.fn (.func f) ca',args:=fi'++ #[.func (.yield l) #[] #[]]} w₁:=by
    have X:(#[Operand.const (.func (.yield l) #[] #[])]).map a.eval= #[.func (.yield l) #[] #[]]:=by simp[Act.eval]
    simp only[resolve,rangeCall,X,T,Deferred.ofValue,sP_]
   have hinv:(invoke (.fn (.func f) ca') (fi'++ #[.func (.yield l) #[] #[]])).run P w₁= .ok (.enter f (fi'++ #[.func (.yield l) #[] #[]]++ca')) w₁:=by
    simp only[invoke];exact vz R
   refine⟨l,mark,w₁,_,w₁,f,_,w₁,by rw[C4];exact g1,C,fun f' _=>kW rl f',hinv,oJ rl m,?_⟩;cases K:js P G ih f (fD fi (.yield A.next::ca)) (A.alloc (.loop .ready none t n ps.toList assign body df)) with
   | err k=>rw[K] at h;cases h
   | iP v L=>rw[K] at h;cases h
   | ret v L=>
   rw[K] at h;dsimp only at h;refine qz hS K I (M.mono hle) ?_ rl _ fun ρ₃ w₃ x i₃ s₃ hx=>?_
   ·rw[dv];have:(fi'++ #[Value.func (.yield l) #[] #[]]++ca').toList=fi'.toList++(.func (.yield l) #[] #[]::ca'.toList):=by simp
    rw[this];refine cA.append (cA.mono hle _ _ U)<|cA.cons ?_<|cA.mono hle _ _ W;simp only[VR];exact⟨_,g4,Z⟩
   have hl₃:=s₃.le I _ _ g4;have hle₃:O.le ρ₃:=fun b l hb=>s₃.le I _ _ (hle b l hb)
   unfold CE at h;cases hb:L.m.get A.next with
   | none=>rw[hb] at h;cases h
   | some ob=>
   rw[hb] at h;cases ob with
   | loop st p tmps n' ps' as bd df'=>
    dsimp only at h;obtain⟨y,hh,fn',tmps',l',rfl,aa,ab⟩:=i₃.obj _ _ _ hb hl₃;have E:st≠ .busy:=fun aq=>by subst aq;cases h
    have h':(match p with
      | none=>CR.ok .normal t d₁ (L.setObj A.next (.loop .exhausted none tmps n' ps' as bd df'))
      | some c=>ih c t n d₁ ro (L.setObj A.next (.loop .exhausted (some c) tmps n' ps' as bd df')))= .ok e t' d' V':=by
     cases st<;>first | exact absurd rfl E | exact h
    obtain⟨i₄,s₄⟩:=i₃.putObj (o':=.loop .exhausted p tmps n' ps' as bd df') hb hl₃ Z Z
     (x:=.loop {state:=.exhausted,pending:=p,fn:=fn',tmps:=tmps',params:=ps'.toArray,assign:=as,body:=bd,defers:=l'.cH}) ⟨fn',tmps',l',Z,aa,ab⟩
    refine⟨p,_,run_endLoop hh E,?_⟩;have aq:=(g3.trans s₃).trans s₄;have u:ρ₁.le ρ₃:=s₃.le I;cases p with
    | none=>
     cases h';exact hQ ρ₃ _ {a with defers:=mark++a.defers} i₄ aq (F.mono hle₃) (g5.mono u) _ Z
    | some c=>
     exact hS.run c t n d₁ ro _ e t' d' V' h' ρ₃ _ {a with defers:=mark++a.defers} rl m Q i₄ (M.mono hle₃) (F.mono hle₃) (g5.mono u) (hr.mono hle₃) fun O' w' a' i' s' t'' d''=>hQ O' w' a' i' (aq.trans s') t'' d''
   | _=>cases h
  cases h
 | _=>cases h
theorem Gn (hm:P.follows .mixedOrders=true) (T:wX P G) (k:Nat):Sound P G (dF P G k):=by
 induction k using Nat.strongRecOn with
 | _ k ihk=>
  cases k with
  | zero=>exact⟨T,fun c t n d ro V e t' d' V' h=>by cases h⟩
  | succ j=>
   have hS:=ihk j (Nat.lt_succ_self j);refine⟨T,fun c t n d ro V e t' d' V' h O w a rl m Q hi I F hd K A=>?_⟩;have h:E7 P G (dF P G j) c t n d ro V= .ok e t' d' V':=h;cases c with
   | skip=>cases h;exact wpIn_skip<|A O w a hi (dY.refl _ _ _) F hd _ Z
   | label l=>cases h;exact wpIn_label<|A O w a hi (dY.refl _ _ _) F hd _ Z
   | exit id=>cases h;exact wpIn_exit<|A O w a hi (dY.refl _ _ _) F hd _ Z
   | ret=>cases h;exact wpIn_ret<|A O w a hi (dY.refl _ _ _) F hd _ Z
   | region id ops draw=>
    cases draw with
    | false=>
     have h':(bif kz ops.toList then .err 96 else AN d (rv P G (dF P G j) ops n d ops.toList t V))= .ok e t' d' V':=h;refine wpIn_region ?_;rw[a6] at h';split at h'
     ·cases h'
     have:=sI hS rl (m:=m) (Q:=Q) ops.toList 0 Z t V O w a h' hi I F hd A;rw[List.range_eq_range'];simpa using this
    | true=>
     have h':tl P G (dF P G j) ops n d t V= .ok e t' d' V':=h
     grind [wpIn_region_any,CY]
   | seq x y=>
    have h':tU (dF P G j x t n d ro V) (fun t d V=>dF P G j y t n d ro V)= .ok e t' d' V':=h;refine wpIn_seq ?_;cases hx:dF P G j x t n d ro V with
    | err q=>rw[hx] at h';cases h'
    | ok e₁ t₁ d₁ C=>
     rw[hx] at h'
     by_cases he:e₁= .normal
     ·subst he;refine hS.run x t n d ro V _ t₁ d₁ C hx O w a rl m _ hi I F hd K fun ρ₁ w₁ a₁ i₁ s₁ ht₁ b E u=>?_
      have u:E= .normal:=u;subst u;have hle:=s₁.le hi;exact hS.run y t₁ n d₁ ro C e t' d' V' h' ρ₁ w₁ a₁ rl m Q i₁ (I.mono hle) ht₁ b (K.mono hle) fun O' w' a' i' s'=>A O' w' a' i' (s₁.trans s')
     have h'':CR.ok e₁ t₁ d₁ C= .ok e t' d' V':=by cases e₁<;>first | exact absurd rfl he | exact h'
     cases h'';exact hS.run x t n d ro V _ _ _ _ hx O w a rl m _ hi I F hd K fun ρ₁ w₁ a₁ i₁ s₁ ht₁ b=>wI he (A ρ₁ w₁ a₁ i₁ s₁ ht₁ b)
   | cond x y z=>
    have h':xB (aY G t x) (dF P G j y t n d ro V) (dF P G j z t n d ro V)= .ok e t' d' V':=h;unfold xB at h';split at h'
    ·rename_i hv;have:=gH (a:=a) I F hv;simp only[VR] at this;exact wpIn_cond_true this<|hS.run y t n d ro V e t' d' V' h' O w a rl m Q hi I F hd K A
    ·rename_i hv;have:=gH (a:=a) I F hv;simp only[VR] at this;exact wpIn_cond_false this<|hS.run z t n d ro V e t' d' V' h' O w a rl m Q hi I F hd K A
    cases h'
   | block id x=>
    have h':qo id (dF P G j x t n d ro V)= .ok e t' d' V':=h;refine wpIn_block ?_;cases hx:dF P G j x t n d ro V with
    | err q=>rw[hx] at h';cases h'
    | ok e₁ t₁ d₁ C=>
     rw[hx] at h';refine hS.run x t n d ro V e₁ t₁ d₁ C hx O w a rl m _ hi I F hd K fun ρ₁ w₁ a₁ i₁ s₁ ht₁ b E u=>?_
     cases e₁ with
     | exit q=>
      have u:E= .exit q:=u;subst u;unfold qo at h';dsimp only at h';rw[a6] at h';split at h'
      ·rename_i hq;cases h';have:=nB hq;subst this;simp only[Exit.inBlock,if_true];exact A ρ₁ w₁ a₁ i₁ s₁ ht₁ b _ Z
      rename_i hq;cases h';have hne:¬q=id:=fun e=>hq (by simp_all)
      simp only[Exit.inBlock,if_neg hne];exact A ρ₁ w₁ a₁ i₁ s₁ ht₁ b _ Z
     | normal=>have u:E= .normal:=u;subst u;cases h';exact A ρ₁ w₁ a₁ i₁ s₁ ht₁ b _ Z
     | goto q=>have u:E= .goto q:=u;subst u;cases h';exact A ρ₁ w₁ a₁ i₁ s₁ ht₁ b _ Z
     | ret=>have u:E= .ret:=u;subst u;cases h';exact A ρ₁ w₁ a₁ i₁ s₁ ht₁ b _ Z
     | iP v=>cases h';have h2:=A ρ₁ w₁ a₁ i₁ s₁ ht₁ b E u;obtain⟨y,rfl,_⟩:=u;exact h2
   | scope x=>
    have h':DJ (dF P G j x t n d ro V)= .ok e t' d' V':=h;refine D3 ?_;cases hx:dF P G j x t n d ro V with
    | err q=>rw[hx] at h';cases h'
    | ok e₁ t₁ d₁ C=>
     rw[hx] at h';refine hS.run x t n d ro V e₁ t₁ d₁ C hx O w a rl m _ hi I F hd K fun ρ₁ w₁ a₁ i₁ s₁ ht₁ b E u=>?_
     cases e₁ with
     | goto q=>cases h'
     | normal=>have u:E= .normal:=u;subst u;cases h';exact A ρ₁ w₁ a₁ i₁ s₁ ht₁ b _ Z
     | exit q=>have u:E= .exit q:=u;subst u;cases h';exact A ρ₁ w₁ a₁ i₁ s₁ ht₁ b _ Z
     | ret=>have u:E= .ret:=u;subst u;cases h';exact A ρ₁ w₁ a₁ i₁ s₁ ht₁ b _ Z
     | iP v=>cases h';have h2:=A ρ₁ w₁ a₁ i₁ s₁ ht₁ b E u;obtain⟨y,rfl,_⟩:=u;exact h2
   | loop x=>
    refine wpIn_loop_ghost (fun i a₁ w₁=>i<=j+1/\∃t₁ d₁ C ρ₁,dF P G i (.loop x) t₁ n d₁ ro C= .ok e t' d' V'/\Inv ρ₁ C w₁/\dY O V w ρ₁ C w₁/\TR ρ₁ t₁ n a₁.tmps/\DR ρ₁ d₁ a₁.defers) (j+1)
     ⟨nR_ _,t,d,V,O,h,hi,dY.refl _ _ _,F,hd⟩ fun i a₁ w₁ U=>?_
    obtain⟨aa,t₁,d₁,C,ρ₁,L,i₁,s₁,ht₁,b⟩:=U;have hle:=s₁.le hi;cases i with
    | zero=>cases L
    | succ i=>
     have hSi:=ihk i oM;have h':tU (dF P G i x t₁ n d₁ ro C) (fun t d V=>dF P G i (.loop x) t n d ro V)= .ok e t' d' V':=L;cases hx:dF P G i x t₁ n d₁ ro C with
     | err q=>rw[hx] at h';cases h'
     | ok e₂ t₂ d₂ R=>
      rw[hx] at h'
      by_cases he:e₂= .normal
      ·subst he;refine hSi.run x t₁ n d₁ ro C _ t₂ d₂ R hx ρ₁ w₁ a₁ rl m _ i₁ (I.mono hle) ht₁ b (K.mono hle) fun ρ₂ w₂ a₂ i₂ s₂ ht₂ M E u=>?_
       have u:E= .normal:=u;subst u;exact⟨i,Nat.lt_succ_self i,by omega,t₂,d₂,R,ρ₂,h',i₂,s₁.trans s₂,ht₂,M⟩
      have h'':CR.ok e₂ t₂ d₂ R= .ok e t' d' V':=by cases e₂<;>first | exact absurd rfl he | exact h'
      cases h'';exact hSi.run x t₁ n d₁ ro C _ _ _ _ hx ρ₁ w₁ a₁ rl m _ i₁ (I.mono hle) ht₁ b (K.mono hle) fun ρ₂ w₂ a₂ i₂ s₂ ht₂ M=>wI he (A ρ₂ w₂ a₂ i₂ (s₁.trans s₂) ht₂ M)
   | rangeFunc g ps assign body=>exact Bw hS h hi I F hd K A
   | _=>cases h
theorem nG (hm:P.follows .mixedOrders=true) (b:wX P G) {fuel f:Nat} {args:List Y} {V V':B} {v:Y} (h:uW P G fuel f args V= .ret v V') {O:Ren} {w:World} {xs:Array Value} (hi:Inv O V w) (d:GR O G) (hx:cA O args xs.toList)
  {R:Ending->World->Prop} (m:∀(O':Ren) (w':World) (x:Value),Inv O' V' w'->dY O V w O' V' w'->VR O' v x->R (.returned x) w'):Calls P f xs w R:=
 callsIn_wide.1 (qz (Gn hm b fuel) h hi d hx none 0 m)
def V0:B:=⟨0,.leaf⟩
theorem NZ (w:World) (d:Fv w):Inv (fun _=>none) V0 w:=
 ⟨⟨fun b _=>⟨Z,D.iq b⟩,fun b l h=>(by cases h),fun b o l _ h=>(by cases h),fun b b' o o' l l' _ _ h=>(by cases h)⟩,d.1,d.2,fun r _ ⟨b,o,l,_,_,h,_⟩=>by cases h⟩
end
end Go.Ev
namespace Go.Ev
variable [Env]
open Go.ChangeShapes Go.WideShapes Go.ChangeAt Go.RowKit
theorem gi.kept {w w':World} (h:gi w w') (may:MemPlace->Prop):w.keptBut w' may:=by
 refine⟨h.os,h.out.1,fun i hi=>?_⟩;rw[h.same i hi]
 grind
theorem gi.frozen {w w':World} (h:gi w w') (a:Addr) (b:a.block<w.heap.size):w'.frozen? a=w.frozen? a:=by
 unfold World.frozen?;rw[h.same a.block b]
theorem Dz {H_:Type} {enc:TypeId×Value->H_} {P:Program} {f:Func} {s:ChangeSpec} {apart fresh handsOn again:Bool} {W W':World} {args:Array Value} {v:Value} {ds gs:List (DataW H_)} {before pa pv:List MemPlace}
  (C:DataW.Whole enc P f.params.toList s.vars apart W args.toList ds gs before)
  (u:∀(b:Nat) (sp:Nat->Bool) (hd:Bool),DataW.TrodAll enc P W' b sp hd f.resultTypes.toList (v.resultList f.resultTypes.size) (s.fn H_ (ds++gs)).results [])
  (d:∀sp:Nat->Bool,(∀p∈before,sp p.block=true)->DataW.TrodAll enc P W' 0 sp true f.params.toList args.toList (s.fn H_ (ds++gs)).args pa)
  (m:∀sp:Nat->Bool,(∀p∈before,sp p.block=true)->DataW.TrodVars enc P W' sp s.vars (s.fn H_ (ds++gs)).vars pv)
  (aa:before=pa++pv) (hk:gi W W')
  (E:∀(j:Nat) (t:TypeId) (r:Value),f.resultTypes[j]? =some t->(v.resultList f.resultTypes.size)[j]? =some r->Value.okWide P W' .any 0 t r):
  s.post enc P f apart fresh handsOn again W args v W':=by
 have hold:∀p∈before,(fun b=>decide (b<W.heap.size)) p.block=true:=fun p hp=>by simpa using C.lt p hp
 refine⟨ds,gs,before,[],pa,pv,C,u _ _ _,d _ hold,m _ hold,hk.kept _,fun _=>?_⟩;have hlt:=C.lt;obtain⟨_,_,_,_,_,hz,hn⟩:=C;refine⟨E,_,_,([]++pa)++pv,⟨[]++pa,pv,trodAll_append (d _ (fun _ _=>Z))<|u _ _ _,m _ (fun _ _=>Z),Z,?_,?_⟩,?_⟩
 ·intro b off hp;have A:MemPlace.cell b off∈before:=by simp_all
  rw[hk.frozen _<|hlt _ A];exact hz b off A
 ·simp_all
 simp_all
end Go.Ev
namespace Go.Ev
variable [Env]
structure IK where
 k:IntKind
 n:Int
structure PO where
 b:Pos
 off:Nat
structure SL where
 b:Pos
 off:Nat
 len:Nat
def Nu:Y->Option IK
 | .int k n=>some ⟨k,n⟩
 | _=>none
def Pl:Y->Option PO
 | .ptr b off=>some ⟨b,off⟩
 | _=>none
def Qz:Y->Option SL
 | .slice b off len _=>some ⟨b,off,len⟩
 | _=>none
def Qy:Y->Option Nat
 | .int _ (.ofNat i)=>some i
 | _=>none
def Qw:Y->Option Bool
 | .bool b=>some b
 | _=>none
def QA:Y->Option (List Y)
 | .tuple l=>some l
 | _=>none
def rowOf:bU->Option (List Y)
 | .row cells _ _=>some cells
 | .own cells _=>some cells
 | _=>none
theorem Aq {v:Y} {i:IK} (h:Nu v=some i):v= .int i.k i.n:=by
 unfold Nu at h;grind
def ng (V:B) (e:Nat) (v:Option Y):HR:=Option.rec (motive:=fun _=>HR) (.err e) (fun v=>.val v V) v
theorem lr (V:B) (e:Nat) (v:Option Y):ng V e v=match v with | some v=>.val v V | none=>.err e:=by cases v<;>rfl
structure Qd where
 run:D Y->Option Y
def ma (G:Cx) (x:Operand):Qd:=
 match x with
 | .tmp k=>bif Nat.ble k 255 then⟨fun t=>iL t.s k⟩ else⟨fun t=>t.get k⟩
 | .const v=>⟨fun _=>nQ v⟩
 | .global g=>⟨fun _=>bif Nat.ble (Nat.succ g) G.gl then some (.ptr (posOf g) 0) else none⟩
 | .func f=>⟨fun _=>some (.func f [] [])⟩
theorem gJ (G:Cx) (x:Operand) (t:D Y):(ma G x).run t=aY G t x:=by
 cases x with
 | tmp k=>
  show(bif Nat.ble k 255 then(⟨fun t=>iL t.s k⟩:Qd) else⟨fun t=>t.get k⟩).run t=t.get k
  grind [D.nJ,mu]
 | _=>rfl
structure Qb where
 run:Y->Y->Option Y
def HV (P:Program) (q:Bool) (o:BinOp) (ty:TypeId) (f:IntKind->Int->Int->Y) (a b:Y):Option Y:=
 Option.rec (motive:=fun _=>Option Y) (qn P q o ty a b) (fun i=>Option.rec (motive:=fun _=>Option Y) (qn P q o ty a b) (fun j=>bif rZ i.k j.k then some (f i.k i.n j.n) else none) (Nu b)) (Nu a)
theorem Mo {P:Program} {q:Bool} {o:BinOp} {ty:TypeId} {f:IntKind->Int->Int->Y} (h:∀k x k' y,qn P q o ty (.int k x) (.int k' y)=bif rZ k k' then some (f k x y) else none) (a b:Y):HV P q o ty f a b=qn P q o ty a b:=by
 unfold HV;cases d:Nu a with
 | none=>rfl
 | some i=>
  cases hb:Nu b with
  | none=>rfl
  | some j=>
   rw[Aq d,Aq hb,h]
def QN (_:IntKind) (x y:Int):Y:=.bool (da x y)
def QJ (_:IntKind) (x y:Int):Y:=.bool (da y x)
def QM (_:IntKind) (x y:Int):Y:=.bool (bif da y x then false else true)
def QI (_:IntKind) (x y:Int):Y:=.bool (bif da x y then false else true)
def QG (_:IntKind) (x y:Int):Y:=.bool (bD x y)
def QP (_:IntKind) (x y:Int):Y:=.bool (bif bD x y then false else true)
def Pk (k:IntKind) (x y:Int):Y:=.int k (wr k<|Int.add x y)
def P1 (k:IntKind) (x y:Int):Y:=.int k (wr k<|Int.sub x y)
def PD (k:IntKind) (x y:Int):Y:=.int k (wr k<|Int.mul x y)
def NN (P:Program) (q:Bool) (o:BinOp) (ty:TypeId):Qb:=
 match o with
 | .lss=>⟨HV P q .lss ty QN⟩
 | .gtr=>⟨HV P q .gtr ty QJ⟩
 | .leq=>⟨HV P q .leq ty QM⟩
 | .geq=>⟨HV P q .geq ty QI⟩
 | .eql=>⟨HV P q .eql ty QG⟩
 | .neq=>⟨HV P q .neq ty QP⟩
 | .add=>⟨HV P q .add ty Pk⟩
 | .sub=>⟨HV P q .sub ty P1⟩
 | .mul=>⟨HV P q .mul ty PD⟩
 | o=>⟨fun a b=>qn P q o ty a b⟩
theorem Ma (P:Program) (q:Bool) (o:BinOp) (ty:TypeId) (a b:Y):(NN P q o ty).run a b=qn P q o ty a b:=by
 cases o<;>first | rfl | exact Mo (fun _ _ _ _=>Z) a b
def NM (c:Qb) (x y:Option Y):Option Y:=
 Option.rec (motive:=fun _=>Option Y) none (fun a=>Option.rec (motive:=fun _=>Option Y) none (fun b=>c.run a b) y) x
def EO (c a b:Option Y):Option Y:=
 Option.rec (motive:=fun _=>Option Y) none (fun c=>Option.rec (motive:=fun _=>Option Y) none (fun c=>bif c then a else b) (Qw c)) c
def NS (i:Nat) (x:Option Y):Option Y:=
 Option.rec (motive:=fun _=>Option Y) none (fun x=>Option.rec (motive:=fun _=>Option Y) none (fun l=>nth l i) (QA x)) x
def PA (ag:Option (Option Nat)) (cells:List Y) (off:Nat):Option Y:=
 Option.rec (motive:=fun _=>Option Y) none (fun o=>Option.rec (motive:=fun _=>Option Y) (nth cells off) (fun n=>bif Nat.ble (Nat.add off n) (cW cells) then some (.agg<|takeN (dp cells off) n) else none) o) ag
def Ba (ag:Option (Option Nat)) (V:B) (x:Option Y):Option Y:=
 Option.rec (motive:=fun _=>Option Y) none (fun v=>Option.rec (motive:=fun _=>Option Y) none (fun p=>Option.rec (motive:=fun _=>Option Y) none
  (fun o=>Option.rec (motive:=fun _=>Option Y) none (fun cells=>PA ag cells p.off) (rowOf o)) (V.m.get p.b))<|Pl v) x
def lZ (P:Program) (s:TypeId) (i:Nat):Option Nat:=
 match structOf P s with
 | some fs=>match fs[i]? with
  | some f=>match tv P f.type with
   | some j=>bif Nat.beq j.size 0 then none else some f.offset
   | none=>none
  | none=>none
 | none=>none
def OO (k:Option Nat) (x:Option Y):Option Y:=
 Option.rec (motive:=fun _=>Option Y) none (fun k=>Option.rec (motive:=fun _=>Option Y) none (fun v=>Option.rec (motive:=fun _=>Option Y) none (fun p=>some (.ptr p.b<|Nat.add p.off k)) (Pl v)) x) k
structure IA where
 n:Option Nat
 sz:Nat
def vr (P:Program) (t:TypeId):Option IA:=
 match mR P t with
 | some (.slice e)=>match tv P e with | some j=>some ⟨none,j.size⟩ | none=>none
 | some (.array n e)=>match tv P e with | some j=>some ⟨some n,j.size⟩ | none=>none
 | _=>none
def Py (q:IA) (v:Y) (i:Nat):Option Y:=
 Option.rec (motive:=fun _=>Option Y)
  (Option.rec (motive:=fun _=>Option Y) none (fun s=>bif Nat.ble (Nat.succ i) s.len then some (.ptr s.b<|Nat.add s.off<|Nat.mul i q.sz) else none)<|Qz v)
  (fun n=>Option.rec (motive:=fun _=>Option Y) none (fun p=>bif Nat.ble (Nat.succ i) n then some (.ptr p.b<|Nat.add p.off<|Nat.mul i q.sz) else none) (Pl v)) q.n
def OP (q:Option IA) (x i:Option Y):Option Y:=
 Option.rec (motive:=fun _=>Option Y) none (fun q=>Option.rec (motive:=fun _=>Option Y) none (fun v=>Option.rec (motive:=fun _=>Option Y) none
  (fun w=>Option.rec (motive:=fun _=>Option Y) none (fun i=>Py q v i) (Qy w)) i) x) q
structure Pf where
 run:D Y->B->HR
def Ay (P:Program) (G:Cx) (V:B) (f:Option Y) (args:Option (List Y)):HR:=
 Option.rec (motive:=fun _=>HR) (.err 12) (fun g=>Option.rec (motive:=fun _=>HR) (.err 12) (fun args=>uI P G.ov V g args) args) f
def FO (G:Cx) (l:List Operand) (t:D Y):Option (List Y):=bY (fun x=>(ma G x).run t) l
def Kp (P:Program) (G:Cx) (op:Op):Pf:=
 match op with
 | .move x=>⟨fun t V=>ng V 1001 ((ma G x).run t)⟩
 | .assign x=>⟨fun t V=>ng V 1002 ((ma G x).run t)⟩
 | .pick c a b=>⟨fun t V=>ng V 1003 (EO ((ma G c).run t) ((ma G a).run t) ((ma G b).run t))⟩
 | .binOp o ty x y _=>⟨fun t V=>ng V 1014 (NM (NN P (xQ x || xQ y) o ty) ((ma G x).run t) ((ma G y).run t))⟩
 | .extract x i=>⟨fun t V=>ng V 1036 (NS i ((ma G x).run t))⟩
 | .load ty x=>⟨fun t V=>ng V 2009 (Ba (du P ty) V ((ma G x).run t))⟩
 | .fieldAddr s x i=>⟨fun t V=>ng V 1024 (OO (lZ P s i) ((ma G x).run t))⟩
 | .indexAddr ty x i=>⟨fun t V=>ng V 1026 (OP (vr P ty) ((ma G x).run t) ((ma G i).run t))⟩
 | .call c=>match c.callee with
  | .value f=>⟨fun t V=>Ay P G V ((ma G f).run t) (FO G c.args.toList t)⟩
  | _=>⟨fun t V=>dq P G (aY G t) V (.call c)⟩
 | op=>⟨fun t V=>dq P G (aY G t) V op⟩
theorem Iv (P:Program) (G:Cx) (op:Op) (t:D Y) (V:B):(Kp P G op).run t V=dq P G (aY G t) V op:=by
 cases op with
 | move x=>show ng V 1001 ((ma G x).run t)=_;rw[gJ,lr];rfl
 | assign x=>show ng V 1002 ((ma G x).run t)=_;rw[gJ,lr];rfl
 | pick c a b=>
  show ng V 1003 (EO ((ma G c).run t) ((ma G a).run t) ((ma G b).run t))=_;rw[gJ,gJ,gJ,lr]
  have:EO (aY G t c) (aY G t a) (aY G t b)=cS P (aY G t) (.pick c a b):=by
   simp only[cS,EO];cases aY G t c with
   | none=>rfl
   | some v=>cases v<;>first | rfl | (rename_i b;cases b<;>rfl)
  rw[this];rfl
 | binOp o ty x y r=>
  show ng V 1014 (NM (NN P (xQ x || xQ y) o ty) ((ma G x).run t) ((ma G y).run t))=_;rw[gJ,gJ,lr]
  have:NM (NN P (xQ x || xQ y) o ty) (aY G t x) (aY G t y)=cS P (aY G t) (.binOp o ty x y r):=by
   simp only[cS,NM];cases aY G t x with
   | none=>rfl
   | some v=>
    cases aY G t y with
    | none=>rfl
    | some u=>exact Ma P _ o ty v u
  rw[this];rfl
 | extract x i=>
  show ng V 1036 (NS i ((ma G x).run t))=_;rw[gJ,lr]
  have:NS i (aY G t x)=cS P (aY G t) (.extract x i):=by
   simp only[cS,NS];cases aY G t x with
   | none=>rfl
   | some v=>cases v<;>rfl
  rw[this];rfl
 | load ty x=>
  show ng V 2009 (Ba (du P ty) V ((ma G x).run t))=_;rw[gJ,lr]
  have:Ba (du P ty) V (aY G t x)=eE P (aY G t) V (.load ty x):=by
   simp only[eE,Ba];cases aY G t x with
   | none=>rfl
   | some v=>
    cases v<;>first | rfl | skip
    rename_i b off;show Option.rec (motive:=fun _=>Option Y) none _ (V.m.get b)=_;cases hb:V.m.get b with
    | none=>dsimp only;rw[hb]
    | some o=>
     dsimp only;rw[hb];cases o<;>first | rfl | skip
     all_goals
      show PA (du P ty) _ off=_;unfold PA;cases du P ty with
      | none=>rfl
      | some q=>cases q<;>rfl
  rw[this];rfl
 | fieldAddr s x i=>
  show ng V 1024 (OO (lZ P s i) ((ma G x).run t))=_;rw[gJ,lr]
  have:OO (lZ P s i) (aY G t x)=cS P (aY G t) (.fieldAddr s x i):=by
   simp only[cS,lZ,nK];cases structOf P s with
   | none=>rfl
   | some fs=>
    dsimp only;cases hx:aY G t x with
    | none=>
     cases fs[i]? with
     | none=>rfl
     | some f=>dsimp only;cases P.info? f.type with
      | none=>rfl
      | some j=>dsimp only;cases Nat.beq j.size 0<;>rfl
    | some v=>
     cases hf:fs[i]? with
     | none=>cases v<;>first | rfl | (simp only[hf];rfl)
     | some f=>
      dsimp only;cases hj:P.info? f.type with
      | none=>cases v<;>first | rfl | (simp only[hf,hj];rfl)
      | some j=>
       dsimp only;cases hz:Nat.beq j.size 0<;>(cases v<;>first | rfl | (simp only[hf,hj,hz];rfl))
  rw[this];rfl
 | indexAddr ty x i=>
  show ng V 1026 (OP (vr P ty) ((ma G x).run t) ((ma G i).run t))=_;rw[gJ,gJ,lr]
  have:OP (vr P ty) (aY G t x) (aY G t i)=cS P (aY G t) (.indexAddr ty x i):=by
   simp only[cS,vr,nK,mm];cases hu:P.underlying ty with
   | none=>rfl
   | some d=>
    cases d<;>first | rfl | skip
    all_goals
     dsimp only;rename_i e;cases hj:P.info? e with
     | none=>
      cases aY G t x with
      | none=>rfl
      | some v=>cases v<;>first | rfl | (cases aY G t i with
       | none=>rfl
       | some u=>cases u<;>first | rfl | (rename_i k n;cases n<;>first | rfl | (simp only[hj];rfl)))
     | some j=>
      cases aY G t x with
      | none=>rfl
      | some v=>cases v<;>first | (cases aY G t i with
       | none=>rfl
       | some u=>cases u<;>first | rfl | (rename_i k n;cases n<;>first | rfl | (simp only[hj];rfl)))
  rw[this];rfl
 | call c=>
  cases A:c.callee with
  | value f=>
   have h1:(Kp P G (.call c)).run t V=Ay P G V ((ma G f).run t) (FO G c.args.toList t):=by
    show(match c.callee with
     | .value f=>(⟨fun t V=>Ay P G V ((ma G f).run t) (FO G c.args.toList t)⟩:Pf)
     | _=>⟨fun t V=>dq P G (aY G t) V (.call c)⟩).run t V=_
    rw[A]
   have C:dq P G (aY G t) V (.call c)=eO P G.ov (aY G t) V (.call c):=by
    grind [dq,kindOf]
   have E:FO G c.args.toList t=sm (aY G t) c.args.toList:=by
    unfold FO sm;congr 1;funext x;exact gJ G x t
   rw[h1,C,gJ,E];simp only[eO,A,Ay];cases aY G t f with
   | none=>rfl
   | some g=>cases sm (aY G t) c.args.toList<;>rfl
  | _=>
   show(match c.callee with
     | .value f=>(⟨fun t V=>Ay P G V ((ma G f).run t) (FO G c.args.toList t)⟩:Pf)
     | _=>⟨fun t V=>dq P G (aY G t) V (.call c)⟩).run t V=_
   rw[A]
 | _=>rfl
structure NG where
 run:D Y->Y->Nat->(D Y->CR)->CR
structure Qv where
 run:Y->D Y->D Y
def G1 (j:Nat):Qv:=
 bif Nat.ble j 255 then⟨fun v t=>D.rec (motive:=fun _=>D Y) (fun s m l=>⟨(wM<|Nat.div j 16).run s ((wM<|Nat.mod j 16).run ((iD<|Nat.div j 16).run s)<|some v),m,l⟩) t⟩
 else⟨fun v t=>t.put (some v) j⟩
theorem MH (j:Nat) (v:Y) (t:D Y):(G1 j).run v t=t.put (some v) j:=by
 unfold G1;cases h:Nat.ble j 255 with
 | true=>
  cases t with
  | mk s m l=>exact(D.rH (some v) s m l ((mu j 255).1 h)).symm
 | false=>rfl
def MI (j:Nat) (v:Y) (t:D Y):D Y:=(G1 j).run v t
theorem Kz (j:Nat) (v:Y) (t:D Y):MI j v t=t.put (some v) j:=MH j v t
def xZ (n:Nat) (dst:Option Nat):NG:=
 match dst with
 | none=>⟨fun t _ _ k=>k t⟩
 | some j=>bif Nat.ble (Nat.succ j) n then⟨fun t v _ k=>k (MI j v t)⟩ else⟨fun _ _ e _=>.err e⟩
theorem wg (n:Nat) (dst:Option Nat) (t:D Y) (v:Y) (e:Nat) (k:D Y->CR):(xZ n dst).run t v e k=match dc t n dst v with | some t'=>k t' | none=>.err e:=by
 cases dst with
 | none=>rfl
 | some j=>
  show(bif Nat.ble (Nat.succ j) n then(⟨fun t v _ k=>k (MI j v t)⟩:NG) else⟨fun _ _ e _=>.err e⟩).run t v e k=_;show _=match(bif Nat.ble (Nat.succ j) n then some (t.put (some v) j) else none) with | some t'=>k t' | none=>.err e
  rw[<-Kz]
  grind
structure Qs where
 run:iK->List Y->B->KR
def PU (P:Program) (G:Cx) (ih:iK) (fn:Func) (r:CR):KR:=
 match r with
 | .ok .normal t d V=>w4 P G ih fn .ret t d V
 | .ok .ret t d V=>w4 P G ih fn .ret t d V
 | .ok (.iP v) t d V=>w4 P G ih fn (.iP v) t d V
 | .err k=>.err k
 | _=>.err 72
def Mj (P:Program) (G:Cx) (fn:Func) (c:Code) (ih:iK) (args:List Y) (V:B):KR:=
 Option.rec (motive:=fun _=>KR) (.err 73) (fun t=>PU P G ih fn (ih c t fn.ntmps [] none V)) (pL fn.ntmps args)
def Pu (P:Program) (G:Cx) (f:Nat):Qs:=
 match nth P.funcs.toList f with
 | some fn=>match fn.body with
  | some c=>⟨Mj P G fn c⟩
  | none=>⟨fun _ _ _=>.err 73⟩
 | none=>⟨fun _ _ _=>.err 74⟩
theorem Mi (P:Program) (G:Cx) (f:Nat) (ih:iK) (args:List Y) (V:B):(Pu P G f).run ih args V=kS P G ih f args V:=by
 unfold Pu kS;rw[eQ,aT_];cases P.funcs[f]? with
 | none=>rfl
 | some fn=>
  dsimp only;cases hb:fn.body with
  | none=>rfl
  | some c=>
   dsimp only;show Mj P G fn c ih args V=_;unfold Mj;cases pL fn.ntmps args with
   | none=>rfl
   | some t=>rfl
def Aw (P:Program) (G:Cx) (ih:iK) (f:Nat) (args:List Y) (V:B):KR:=
 Option.rec (motive:=fun _=>KR) (Option.rec (motive:=fun _=>KR) (Option.rec (motive:=fun _=>KR) (bif G.fk f then sG (HM P G ih f args V) else(Pu P G f).run ih args V) (fun c=>.err c)<|G.stop f args V) (fun v=>bif eH args && (pW v && sB G.gl V G.laid) then .ret v V else .err 79)<|G.Jg f args) (fun r=>.ret r.1 r.2) (G.w9 f args V)
theorem Ax (P:Program) (G:Cx) (ih:iK) (f:Nat) (args:List Y) (V:B):Aw P G ih f args V=js P G ih f args V:=by
 unfold Aw js;rw[Mi];cases G.w9 f args V with
 | some v=>rfl
 | none=>
 dsimp only;cases G.Jg f args with
 | some v=>rfl
 | none=>
  dsimp only;cases G.stop f args V<;>rfl
structure JK where
 run:iK->D Y->B->(D Y->B->CR)->CR
def JD (k:D Y->B->CR) (V:B) (t:D Y):CR:=k t V
def OQ (pn:Bool) (c:NG) (t:D Y) (k:D Y->B->CR) (r:KR):CR:=
 KR.rec (motive:=fun _=>CR) (fun v V=>c.run t v 80 (JD k V)) (fun v V=>Kr pn v t V) (fun e=>.err e) r
def Kd (P:Program) (G:Cx) (ih:iK) (pn:Bool) (c:NG) (t:D Y) (k:D Y->B->CR) (r:HR):CR:=
 HR.rec (motive:=fun _=>CR) (fun v V=>c.run t v 80 (JD k V)) (fun V=>c.run t unit 80 (JD k V)) (fun f args V=>OQ pn c t k (Aw P G ih f args V)) (fun l args V=>OQ pn c t k (kH ih l args V)) (fun v V=>Kr pn v t V) (fun e=>.err e) r
def Jo (ops:Array Oper) (o:Oper) (c:NG) (t:D Y) (V:B) (k:D Y->B->CR) (go:CR) (w:Option Bool):CR:=
 Option.rec (motive:=fun _=>CR) (.err 85) (fun b=>bif b then go else c.run t unit 84 (JD k V)) w
def Qq (P:Program) (G:Cx) (j:Nat) (op:Op):Option JK:=
 match op with
 | .move x=>some ⟨fun _ t V k=>Option.rec (motive:=fun _=>CR) (.err 1001) (fun v=>k ((G1 j).run v t) V) ((ma G x).run t)⟩
 | .assign x=>some ⟨fun _ t V k=>Option.rec (motive:=fun _=>CR) (.err 1002) (fun v=>k ((G1 j).run v t) V) ((ma G x).run t)⟩
 | .binOp o ty x y _=>some ⟨fun _ t V k=>Option.rec (motive:=fun _=>CR) (.err 1014) (fun v=>k ((G1 j).run v t) V) (NM (NN P (xQ x || xQ y) o ty) ((ma G x).run t) ((ma G y).run t))⟩
 | .extract x i=>some ⟨fun _ t V k=>Option.rec (motive:=fun _=>CR) (.err 1036) (fun v=>k ((G1 j).run v t) V) (NS i ((ma G x).run t))⟩
 | .load ty x=>some ⟨fun _ t V k=>Option.rec (motive:=fun _=>CR) (.err 2009) (fun v=>k ((G1 j).run v t) V) (Ba (du P ty) V ((ma G x).run t))⟩
 | .fieldAddr s x i=>some ⟨fun _ t V k=>Option.rec (motive:=fun _=>CR) (.err 1024) (fun v=>k ((G1 j).run v t) V) (OO (lZ P s i) ((ma G x).run t))⟩
 | .indexAddr ty x i=>some ⟨fun _ t V k=>Option.rec (motive:=fun _=>CR) (.err 1026) (fun v=>k ((G1 j).run v t) V) (OP (vr P ty) ((ma G x).run t) ((ma G i).run t))⟩
 | _=>none
theorem MZ {P:Program} {G:Cx} {pn:Bool} {n j:Nat} (hj:Nat.ble (Nat.succ j) n=true) {op:Op} {c:JK} (h:Qq P G j op=some c) (ih:iK) (t:D Y) (V:B) (k:D Y->B->CR):
  c.run ih t V k=Kd P G ih pn (xZ n<|some j) t k ((Kp P G op).run t V):=by
 have key:∀(e:Nat) (x:Option Y),Option.rec (motive:=fun _=>CR) (.err e) (fun v=>k ((G1 j).run v t) V) x=Kd P G ih pn (xZ n<|some j) t k (ng V e x):=by
  intro e x;cases x with
  | none=>rfl
  | some v=>
   show k ((G1 j).run v t) V=(xZ n<|some j).run t v 80 (JD k V);unfold xZ;dsimp only;rw[hj];rfl
 cases op<;>first | (cases h;done) | (cases h;exact key _ _)
def P0 (P:Program) (G:Cx) (pn:Bool) (n:Nat) (o:Oper):JK:=
 match o.dst with
 | some j=>bif Nat.ble (Nat.succ j) n then(match Qq P G j o.op with | some c=>c | none=>⟨fun ih t V k=>Kd P G ih pn (xZ n<|some j) t k ((Kp P G o.op).run t V)⟩) else⟨fun ih t V k=>Kd P G ih pn (xZ n<|some j) t k ((Kp P G o.op).run t V)⟩
 | none=>⟨fun ih t V k=>Kd P G ih pn (xZ n none) t k ((Kp P G o.op).run t V)⟩
theorem MY (P:Program) (G:Cx) (pn:Bool) (n:Nat) (o:Oper) (ih:iK) (t:D Y) (V:B) (k:D Y->B->CR):(P0 P G pn n o).run ih t V k=Kd P G ih pn (xZ n o.dst) t k ((Kp P G o.op).run t V):=by
 unfold P0;cases hd:o.dst with
 | none=>rfl
 | some j=>
  dsimp only;cases hj:Nat.ble (Nat.succ j) n with
  | false=>rfl
  | true=>
   simp only[cond_true]
   grind [MZ]
def JH (P:Program) (G:Cx) (pn:Bool) (ops:Array Oper) (n:Nat) (o:Oper):JK:=
 match o.guard with
 | none=>P0 P G pn n o
 | some _=>⟨fun ih t V k=>Jo ops o (xZ n o.dst) t V k (Kd P G ih pn (xZ n o.dst) t k ((Kp P G o.op).run t V)) (bu ops t o)⟩
theorem HS (P:Program) (G:Cx) (ih:iK) (pn:Bool) (n:Nat) (dst:Option Nat) (t:D Y) (k:D Y->B->CR) (r:HR):
  Kd P G ih pn (xZ n dst) t k r=match jH P G ih r with | .ret v V'=>(match dc t n dst v with | some t'=>k t' V' | none=>.err 80) | .iP v V'=>Kr pn v t V' | .err e=>.err e:=by
 cases r with
 | val v V=>show(xZ n dst).run t v 80 (JD k V)=_;rw[wg];rfl
 | skip V=>show(xZ n dst).run t unit 80 (JD k V)=_;rw[wg];rfl
 | enter f args V=>
  show OQ pn (xZ n dst) t k (Aw P G ih f args V)=_;rw[Ax];show _=match js P G ih f args V with | .ret v V'=>_ | .iP v V'=>_ | .err e=>_
  cases js P G ih f args V with
  | ret v V'=>show(xZ n dst).run t v 80 (JD k V')=_;rw[wg];rfl
  | iP v V'=>rfl
  | err e=>rfl
 | round l args V=>
  show OQ pn (xZ n dst) t k (kH ih l args V)=_;show _=match kH ih l args V with | .ret v V'=>_ | .iP v V'=>_ | .err e=>_
  cases kH ih l args V with
  | ret v V'=>show(xZ n dst).run t v 80 (JD k V')=_;rw[wg];rfl
  | iP v V'=>rfl
  | err e=>rfl
 | iP v V=>rfl
 | err e=>rfl
theorem DO (P:Program) (G:Cx) (pn:Bool) (ops:Array Oper) (n:Nat) (o:Oper) (ih:iK) (t:D Y) (V:B) (k:D Y->B->CR):(JH P G pn ops n o).run ih t V k=gq P G ih pn ops n o t V k:=by
 unfold JH gq;cases hg:o.guard with
 | none=>
  grind [bu,MY,HS,Iv]
 | some jw=>
  show Jo ops o (xZ n o.dst) t V k (Kd P G ih pn (xZ n o.dst) t k ((Kp P G o.op).run t V)) (bu ops t o)=_;rw[HS,Iv];unfold Jo;cases bu ops t o with
  | none=>rfl
  | some b=>
   grind [JD,wg]
def KE (P:Program) (G:Cx) (ops:Array Oper) (n:Nat) (l:List Oper):JK:=
 List.rec (motive:=fun _=>JK) ⟨fun _ t V k=>k t V⟩ (fun o _ c=>⟨fun ih t V k=>(JH P G true ops n o).run ih t V (fun t V=>c.run ih t V k)⟩) l
def w3 (d:List DE) (t:D Y) (V:B):CR:=.ok .normal t d V
theorem EW (P:Program) (G:Cx) (ops:Array Oper) (n:Nat) (ih:iK) (d:List DE):∀(l:List Oper) (t:D Y) (V:B),(KE P G ops n l).run ih t V (w3 d)=rv P G ih ops n d l t V
 | [],t,V=>rfl
 | o::l,t,V=>by
  show(JH P G true ops n o).run ih t V (fun t V=>(KE P G ops n l).run ih t V (w3 d))=gq P G ih true ops n o t V (rv P G ih ops n d l);rw[DO];congr 1;funext t' V';exact EW P G ops n ih d l t' V'
def yH (P:Program) (G:Cx) (ops:Array Oper) (rc:List Nat) (k:D Y->B->CR) (t:D Y) (V:B):CR:=bif cY P G ops t V rc then k t V else .err 86
def wb (P:Program) (G:Cx) (ops:Array Oper) (n:Nat) (l:List (Nat×List Nat)):JK:=
 List.rec (motive:=fun _=>JK) ⟨fun _ t V k=>k t V⟩ (fun p _ c=>match nth ops.toList p.1 with
  | some o=>(match p.2 with
   | []=>⟨fun ih t V k=>(JH P G false ops n o).run ih t V (fun t V=>c.run ih t V k)⟩
   | rc=>⟨fun ih t V k=>(JH P G false ops n o).run ih t V (yH P G ops rc (fun t V=>c.run ih t V k))⟩)
  | none=>⟨fun _ _ _ _=>.err 87⟩) l
theorem wc (P:Program) (G:Cx) (ops:Array Oper) (n:Nat) (ih:iK) (d:List DE):∀(l:List (Nat×List Nat)) (t:D Y) (V:B),(wb P G ops n l).run ih t V (w3 d)=iQ P G ih ops n d l t V
 | [],t,V=>rfl
 | (i,rc)::l,t,V=>by
  show(match nth ops.toList i with
   | some o=>(match rc with
    | []=>(⟨fun ih t V k=>(JH P G false ops n o).run ih t V (fun t V=>(wb P G ops n l).run ih t V k)⟩:JK)
    | rc=>⟨fun ih t V k=>(JH P G false ops n o).run ih t V (yH P G ops rc (fun t V=>(wb P G ops n l).run ih t V k))⟩)
   | none=>⟨fun _ _ _ _=>.err 87⟩).run ih t V (w3 d)=(match ops[i]? with
   | some o=>gq P G ih false ops n o t V (fun t' V'=>bif cY P G ops t' V' rc then iQ P G ih ops n d l t' V' else .err 86)
   | none=>.err 87)
  rw[eQ,aT_];cases ops[i]? with
  | none=>rfl
  | some o=>
   dsimp only;cases rc with
   | nil=>
    show(JH P G false ops n o).run ih t V (fun t V=>(wb P G ops n l).run ih t V (w3 d))=_;rw[DO];congr 1;funext t' V';exact wc P G ops n ih d l t' V'
   | cons q rc=>
    show(JH P G false ops n o).run ih t V (yH P G ops (q::rc) (fun t V=>(wb P G ops n l).run ih t V (w3 d)))=_;rw[DO];congr 1;funext t' V';unfold yH;dsimp only;rw[wc P G ops n ih d l t' V']
structure Pd where
 run:iK->D Y->List DE->Option Pos->B->CR
def Po (P:Program) (G:Cx) (c:Code) (n:Nat):Pd:=
 match c with
 | .skip | .label _=>⟨fun _ t d _ V=>.ok .normal t d V⟩
 | .region _ ops draw=>bif draw then(bif sn P ops then⟨fun ih t d _ V=>(wb P G ops n<|jz P ops).run ih t V (w3 d)⟩ else⟨fun _ _ _ _ _=>.err 88⟩)
   else(bif kz ops.toList then⟨fun _ _ _ _ _=>.err 96⟩ else⟨fun ih t d _ V=>AN d ((KE P G ops n ops.toList).run ih t V<|w3 d)⟩)
 | .seq a b=>⟨fun ih t d ro V=>tU (ih a t n d ro V) (fun t d V=>ih b t n d ro V)⟩
 | .cond x a b=>⟨fun ih t d ro V=>xB ((ma G x).run t) (ih a t n d ro V) (ih b t n d ro V)⟩
 | .block id b=>⟨fun ih t d ro V=>qo id (ih b t n d ro V)⟩
 | .scope b=>⟨fun ih t d ro V=>DJ (ih b t n d ro V)⟩
 | .loop b=>⟨fun ih t d ro V=>tU (ih b t n d ro V) (fun t d V=>ih (.loop b) t n d ro V)⟩
 | .exit id=>⟨fun _ t d _ V=>.ok (.exit id) t d V⟩
 | .ret=>⟨fun _ t d _ V=>.ok .ret t d V⟩
 | .rangeFunc g ps assign body=>⟨fun ih t d ro V=>sO P G ih g ps assign body t n d ro V⟩
 | _=>⟨fun _ _ _ _ _=>.err 99⟩
theorem Me (P:Program) (G:Cx) (c:Code) (n:Nat) (ih:iK) (t:D Y) (d:List DE) (ro:Option Pos) (V:B):(Po P G c n).run ih t d ro V=E7 P G ih c t n d ro V:=by
 cases c with
 | region id ops draw=>
  cases draw with
  | false=>
   show(bif kz ops.toList then(⟨fun _ _ _ _ _=>.err 96⟩:Pd) else⟨fun ih t d _ V=>AN d ((KE P G ops n ops.toList).run ih t V<|w3 d)⟩).run ih t d ro V=bif kz ops.toList then .err 96 else AN d (rv P G ih ops n d ops.toList t V)
   grind [EW]
  | true=>
   show(bif sn P ops then(⟨fun ih t d _ V=>(wb P G ops n<|jz P ops).run ih t V (w3 d)⟩:Pd) else⟨fun _ _ _ _ _=>.err 88⟩).run ih t d ro V=tl P G ih ops n d t V
   grind [tl,wc]
 | cond x a b=>show xB ((ma G x).run t) _ _=_;rw[gJ];rfl
 | _=>rfl
def MP (P:Program) (G:Cx) (fuel:Nat):iK:=Nat.rec (motive:=fun _=>iK) (fun _ _ _ _ _ _=>.err 100) (fun _ ih c t n d ro V=>(Po P G c n).run ih t d ro V) fuel
theorem EZ (P:Program) (G:Cx):∀(fuel:Nat),MP P G fuel=dF P G fuel
 | 0=>rfl
 | k+1=>by
  funext c t n d ro V;show(Po P G c n).run (MP P G k) t d ro V=E7 P G (dF P G k) c t n d ro V;rw[Me,EZ P G k]
def AK (P:Program) (G:Cx) (fuel:Nat) (f:Nat) (args:List Y) (V:B):KR:=Aw P G (MP P G fuel) f args V
theorem HI (P:Program) (G:Cx) (fuel:Nat) (f:Nat) (args:List Y) (V:B):AK P G fuel f args V=uW P G fuel f args V:=by
 unfold AK uW;rw[Ax,EZ]
end Go.Ev
namespace Go.Ev
variable [Env]
open Go.ChangeShapes Go.WideShapes Go.ChangeAt Go.RowKit
theorem uC {α β:Type} {f:α->Option β}:∀{l:List α} {r:List β},bY f l=some r->r.length=l.length/\∀(i:Nat) (v:β),r[i]? =some v->∃y,l[i]? =some y/\f y=some v
 | [],r,h=>by
  rw[fJ] at h;simp_all
 | x::l,r,h=>by
  obtain⟨y,r',h1,b,rfl⟩:=fp h;obtain⟨k1,k2⟩:=uC b
  grind
theorem r6.of {w:World} {g:Nat} {cells:List Y} {vs:List Value} {e:TypeId} {fr:Nat×Nat} (hb:w.heap[g]? =some (.cells vs.toArray e fr)) (hv:bY mG vs=some cells):r6 w (g,cells):=by
 obtain⟨b,k2⟩:=uC hv;refine⟨vs.toArray,e,fr,hb,by simp[b],fun i v hi=>?_⟩
 grind [mH]
def VG (gl:Nat) (l:List (Nat×List Y)) (E:Nat->TypeId):B:=⟨gl,H4 l E⟩
theorem VG_get {gl:Nat} {l:List (Nat×List Y)} {E:Nat->TypeId} {b:Nat} {o:bU} (h:(VG gl l E).m.get b=some o):∃x∈l,x.1=b/\o= .row x.2 (E x.1) true:=Dg E h
def zP (w:World) (b:Nat):Nat:=
 match w.heap[b]? with
 | some (.cells cs _ _)=>cs.size
 | _=>0
def elemAt (w:World) (b:Nat):TypeId:=
 match w.heap[b]? with
 | some (.cells _ e _)=>e
 | _=>0
def ρG (w:World) (gl:Nat):Ren:=fun b=>if b<gl then some ⟨b,0,zP w b⟩ else none
theorem OG_some {w:World} {gl:Nat} {b:Nat} {l:Loc} (h:ρG w gl b=some l):b<gl/\l=⟨b,0,zP w b⟩:=by
 unfold ρG at h
 simp_all
def D1 (gl:Nat) (l:List (Nat×List Y)):Bool:=l.all fun x=>Nat.blt x.1 gl && eH x.2
theorem Pz {w:World} {gl:Nat} {l:List (Nat×List Y)} (E:Fv w) (ab:gl<=w.heap.size) (u:D1 gl l=true) (hl:∀x∈l,r6 w x):Inv (ρG w gl) (VG gl l<|elemAt w) w:=by
 have aa:∀x∈l,x.1<gl/\eH x.2=true:=fun x hx=>by
  have:=aE_.1 u x hx
  simp_all
 refine⟨⟨fun b hb=>?_,fun b l' h=>?_,fun b o l' h1 d=>?_,fun b b' o o' l1 l2 h1 d h3 h4 he hne=>?_⟩,E.1,E.2,fun r _ ⟨b,o,l',h1,d,_,_⟩=>by
  obtain⟨x,_,_,rfl⟩:=VG_get h1;cases d⟩
 ·have A:¬b<gl:=Nat.not_lt.2 hb;refine⟨by unfold ρG;rw[if_neg A],?_⟩;cases h:(VG gl l<|elemAt w).m.get b with
  | none=>rfl
  | some o=>
   obtain⟨x,hx,rfl,_⟩:=VG_get h
   grind
 ·obtain⟨hb,rfl⟩:=OG_some h
  grind
 ·obtain⟨x,hx,rfl,rfl⟩:=VG_get h1;obtain⟨hb,rfl⟩:=OG_some d;obtain⟨c,e,fr,C,k2,k3⟩:=hl x hx;have F:zP w x.1=c.size:=by unfold zP;rw[C]
  have he:elemAt w x.1=e:=by unfold elemAt;rw[C]
  refine⟨_,C,c,fr,by rw[he],?_,?_,fun i v hv=>?_,fun h=>by cases h⟩
  ·simp[F]
  ·simp_all
  grind [l6,jq]
 obtain⟨x,hx,rfl,rfl⟩:=VG_get h1;obtain⟨y,hy,rfl,rfl⟩:=VG_get d;exact⟨Z,Z⟩
theorem gi.Kn {w w':World} {gl:Nat} {l:List (Nat×List Y)} {E:Nat->TypeId} {O O':Ren} {V':B} (h:dY O (VG gl l E) w O' V' w'):gi w w':=
 ⟨h.os,h.out,h.tape,h.size,fun r d=>h.frame r d fun⟨b,o,l',h1,m,_⟩=>by
  obtain⟨x,_,_,rfl⟩:=VG_get h1;cases m⟩
def oc:KR->Bool
 | .ret (.bool true) _=>true
 | _=>false
theorem zL {r:KR} (h:oc r=true):∃V,r= .ret (.bool true) V:=by
 unfold oc at h
 grind
theorem CO {P:Program} {G:Cx} (hm:P.follows .mixedOrders=true) (m:wX P G) {fuel f:Nat} {w:World} (u:Fv w) (b:G.gl<=w.heap.size) (d:D1 G.gl G.laid=true) (hl:∀x∈G.laid,r6 w x)
  (h:∀E,oc (AK P G fuel f [] (VG G.gl G.laid E))=true):Calls P f #[] w fun e w'=>e= .returned (.bool true)/\gi w w':=by
 have h:=h (elemAt w);rw[HI] at h;obtain⟨V,h⟩:=zL h;refine nG hm m h (Pz u b d hl) (fun g A=>⟨_,by show ρG w G.gl g=_;unfold ρG;rw[if_pos A]⟩) cA.nil fun O' w' x _ st hv=>?_
 grind [VR,gi.Kn]
theorem Df {P:Program} {G:Cx} (hm:P.follows .mixedOrders=true) (m:wX P G) {fuel f:Nat} (b:D1 G.gl G.laid=true) (h:∀E,oc (AK P G fuel f [] (VG G.gl G.laid E))=true):D8 P G.gl G.laid f [] (.bool true):=fun w xs d u hl hx=>by
 have:xs= #[]:=by
  have:=hx.dE
  simp_all
 subst this;exact(CO hm m (w:=w) u d b hl h).mono fun e w' ⟨h1,A⟩=>⟨_,h1,by simp only[VR],A⟩
end Go.Ev
namespace Go.Ev
variable [Env]
section
variable {P:Program} {G:Cx}
def Ev (P:Program) (G:Cx) (c:Code) (n:Nat) (t:D Y) (V:B) (Q:Ex->D Y->B->Prop):Prop:=
 ∃(K:Nat) (e:Ex) (t':D Y) (V':B),(∀d ro k,K<=k->dF P G k c t n d ro V= .ok e t' d V')/\Q e t' V'
def aT (P:Program) (G:Cx) (f:Nat) (args:List Y) (V:B) (R:Y->B->Prop):Prop:=
 ∃(K:Nat) (v:Y) (V':B),(∀k,K<=k->js P G (dF P G k) f args V= .ret v V')/\R v V'
def bG (P:Program) (G:Cx) (ops:Array Oper) (n:Nat) (l:List Oper) (t:D Y) (V:B) (Q:Ex->D Y->B->Prop):Prop:=
 ∃(K:Nat) (e:Ex) (t':D Y) (V':B),(∀d k,K<=k->rv P G (dF P G k) ops n d l t V= .ok e t' d V')/\Q e t' V'
def cu (P:Program) (G:Cx) (ops:Array Oper) (n:Nat) (l:List (Nat×List Nat)) (t:D Y) (V:B) (Q:Ex->D Y->B->Prop):Prop:=
 ∃(K:Nat) (e:Ex) (t':D Y) (V':B),(∀d k,K<=k->iQ P G (dF P G k) ops n d l t V= .ok e t' d V')/\Q e t' V'
theorem Ev.mono {c:Code} {n:Nat} {t:D Y} {V:B} {Q Q':Ex->D Y->B->Prop} (h:Ev P G c n t V Q) (hq:∀e t' V',Q e t' V'->Q' e t' V'):Ev P G c n t V Q':=
 let ⟨K,e,t',V',h1,b⟩:=h;⟨K,e,t',V',h1,hq _ _ _ b⟩
theorem aT.mono {f:Nat} {args:List Y} {V:B} {R R':Y->B->Prop} (h:aT P G f args V R) (hq:∀v V',R v V'->R' v V'):aT P G f args V R':=
 let ⟨K,v,V',h1,b⟩:=h;⟨K,v,V',h1,hq _ _ b⟩
section
variable {n:Nat} {t:D Y} {V:B} {Q:Ex->D Y->B->Prop}
theorem aG (h:Q .normal t V):Ev P G .skip n t V Q:=⟨1,.normal,t,V,fun d ro k hk=>by obtain⟨j,rfl⟩:∃j,k=j+1:=⟨k-1,by omega⟩;rfl,h⟩
theorem HE {l:Nat} (h:Q .normal t V):Ev P G (.label l) n t V Q:=⟨1,.normal,t,V,fun d ro k hk=>by obtain⟨j,rfl⟩:∃j,k=j+1:=⟨k-1,by omega⟩;rfl,h⟩
theorem bc {id:Nat} (h:Q (.exit id) t V):Ev P G (.exit id) n t V Q:=⟨1,_,t,V,fun d ro k hk=>by obtain⟨j,rfl⟩:∃j,k=j+1:=⟨k-1,by omega⟩;rfl,h⟩
theorem aD (h:Q .ret t V):Ev P G .ret n t V Q:=⟨1,_,t,V,fun d ro k hk=>by obtain⟨j,rfl⟩:∃j,k=j+1:=⟨k-1,by omega⟩;rfl,h⟩
def dT (P:Program) (G:Cx) (n:Nat) (b:Code) (Q:Ex->D Y->B->Prop) (e:Ex) (t:D Y) (V:B):Prop:=
 match e with
 | .normal=>Ev P G b n t V Q
 | e=>Q e t V
theorem ai {a b:Code} (h:Ev P G a n t V (dT P G n b Q)):Ev P G (.seq a b) n t V Q:=by
 obtain⟨K,e,t',V',h1,m⟩:=h
 have step:∀d ro k,K<=k->dF P G (k+1) (.seq a b) t n d ro V=tU (.ok e t' d V') (fun t d V=>dF P G k b t n d ro V):=fun d ro k hk=>by
  show tU (dF P G k a t n d ro V) (fun t d V=>dF P G k b t n d ro V)=_;rw[h1 d ro k hk]
 cases e with
 | normal=>
  obtain⟨u,e2,A,C,E,h4⟩:=m;refine⟨max K u+1,e2,A,C,fun d ro k hk=>?_,h4⟩;obtain⟨j,rfl⟩:∃j,k=j+1:=⟨k-1,by omega⟩;rw[step d ro j oM];exact E d ro j oM
 | _=>
  refine⟨K+1,_,t',V',fun d ro k hk=>?_,m⟩;obtain⟨j,rfl⟩:∃j,k=j+1:=⟨k-1,by omega⟩;rw[step d ro j oM];rfl
theorem zf {x:Operand} {a b:Code} {c:Bool} (m:aY G t x=some (.bool c)) (h:Ev P G (if c then a else b) n t V Q):Ev P G (.cond x a b) n t V Q:=by
 obtain⟨K,e,t',V',h1,u⟩:=h;refine⟨K+1,e,t',V',fun d ro k hk=>?_,u⟩;obtain⟨j,rfl⟩:∃j,k=j+1:=⟨k-1,by omega⟩;show xB (aY G t x) (dF P G j a t n d ro V) (dF P G j b t n d ro V)=_;rw[m];have:=h1 d ro j oM;cases c<;>exact this
def jG (id:Nat) (Q:Ex->D Y->B->Prop) (e:Ex) (t:D Y) (V:B):Prop:=
 match e with
 | .exit j=>if j=id then Q .normal t V else Q (.exit j) t V
 | e=>Q e t V
theorem aJ {id:Nat} {b:Code} (h:Ev P G b n t V (jG id Q)):Ev P G (.block id b) n t V Q:=by
 obtain⟨K,e,t',V',h1,m⟩:=h
 have step:∀d ro k,K<=k->dF P G (k+1) (.block id b) t n d ro V=qo id (.ok e t' d V'):=fun d ro k hk=>by
  show qo id (dF P G k b t n d ro V)=_;rw[h1 d ro k hk]
 cases e with
 | exit q=>
  by_cases hq:q=id
  ·subst hq;refine⟨K+1,.normal,t',V',fun d ro k hk=>?_,by simpa [jG] using m⟩;obtain⟨j,rfl⟩:∃j,k=j+1:=⟨k-1,by omega⟩;rw[step d ro j oM];show(bif Nat.beq q q then _ else _)=_
   simp_all
  refine⟨K+1,.exit q,t',V',fun d ro k hk=>?_,by simpa [jG,hq] using m⟩;obtain⟨j,rfl⟩:∃j,k=j+1:=⟨k-1,by omega⟩;rw[step d ro j oM];show(bif Nat.beq q id then _ else _)=_
  grind [nB]
 | _=>
  refine⟨K+1,_,t',V',fun d ro k hk=>?_,m⟩;obtain⟨j,rfl⟩:∃j,k=j+1:=⟨k-1,by omega⟩;rw[step d ro j oM];rfl
theorem J3 {b:Code} (I:Nat->D Y->B->Prop) (step:∀j t V,I j t V->Ev P G b n t V (fun e t' V'=>match e with | .normal=>∃i,i<j/\I i t' V' | e=>Q e t' V')):
  ∀(j:Nat) (t:D Y) (V:B),I j t V->Ev P G (.loop b) n t V Q:=by
 intro j;induction j using Nat.strongRecOn with
 | _ j ih=>
  intro t V A;obtain⟨K,e,t',V',h1,u⟩:=step j t V A
  have st:∀d ro k,K<=k->dF P G (k+1) (.loop b) t n d ro V=tU (.ok e t' d V') (fun t d V=>dF P G k (.loop b) t n d ro V):=fun d ro k hk=>by
   show tU (dF P G k b t n d ro V) (fun t d V=>dF P G k (.loop b) t n d ro V)=_;rw[h1 d ro k hk]
  cases e with
  | normal=>
   obtain⟨i,hi,m⟩:=u;obtain⟨C,e2,E,F,L,h4⟩:=ih i hi t' V' m;refine⟨max K C+1,e2,E,F,fun d ro k hk=>?_,h4⟩;obtain⟨q,rfl⟩:∃q,k=q+1:=⟨k-1,by omega⟩;rw[st d ro q oM];exact L d ro q oM
  | _=>
   refine⟨K+1,_,t',V',fun d ro k hk=>?_,u⟩;obtain⟨q,rfl⟩:∃q,k=q+1:=⟨k-1,by omega⟩;rw[st d ro q oM];rfl
theorem ah {id:Nat} {ops:Array Oper} (hd:kz ops.toList=false) (h:bG P G ops n ops.toList t V Q):Ev P G (.region id ops false) n t V Q:=by
 obtain⟨K,e,t',V',h1,b⟩:=h;refine⟨K+1,e,t',V',fun d ro k hk=>?_,b⟩;obtain⟨j,rfl⟩:∃j,k=j+1:=⟨k-1,by omega⟩;show(bif kz ops.toList then .err 96 else AN d (rv P G (dF P G j) ops n d ops.toList t V))=_;rw[hd,h1 d j oM];cases e<;>rfl
theorem uV {id:Nat} {ops:Array Oper} (hf:sn P ops=true) (h:cu P G ops n (jz P ops) t V Q):Ev P G (.region id ops true) n t V Q:=by
 obtain⟨K,e,t',V',h1,b⟩:=h;refine⟨K+1,e,t',V',fun d ro k hk=>?_,b⟩;obtain⟨j,rfl⟩:∃j,k=j+1:=⟨k-1,by omega⟩;show tl P G (dF P G j) ops n d t V=_;unfold tl
 simp_all
theorem af {ops:Array Oper} (h:Q .normal t V):bG P G ops n [] t V Q:=⟨0,.normal,t,V,fun _ _ _=>Z,h⟩
theorem S {ops:Array Oper} {o:Oper} {l:List Oper} {v:Y} {t':D Y} {V':B} (hw:bu ops t o=some true) (hv:dq P G (aY G t) V o.op= .val v V') (hp:dc t n o.dst v=some t') (h:bG P G ops n l t' V' Q):bG P G ops n (o::l) t V Q:=by
 obtain⟨K,e,b,m,h1,u⟩:=h;refine⟨K,e,b,m,fun d k hk=>?_,u⟩;show gq P G (dF P G k) true ops n o t V (rv P G (dF P G k) ops n d l)=_
 grind [gq,jH]
theorem mC {ops:Array Oper} {o:Oper} {l:List Oper} {t':D Y} {V':B} (hw:bu ops t o=some true) (hv:dq P G (aY G t) V o.op= .skip V') (hp:dc t n o.dst unit=some t') (h:bG P G ops n l t' V' Q):bG P G ops n (o::l) t V Q:=by
 obtain⟨K,e,b,m,h1,u⟩:=h;refine⟨K,e,b,m,fun d k hk=>?_,u⟩;show gq P G (dF P G k) true ops n o t V (rv P G (dF P G k) ops n d l)=_
 grind [gq,jH]
theorem ae {ops:Array Oper} {o:Oper} {l:List Oper} {t':D Y} (hw:bu ops t o=some false) (hp:dc t n o.dst unit=some t') (h:bG P G ops n l t' V Q):bG P G ops n (o::l) t V Q:=by
 obtain⟨K,e,b,m,h1,u⟩:=h;refine⟨K,e,b,m,fun d k hk=>?_,u⟩;show gq P G (dF P G k) true ops n o t V (rv P G (dF P G k) ops n d l)=_;unfold gq
 simp_all
theorem C2 {ops:Array Oper} {o:Oper} {l:List Oper} {f:Nat} {args:List Y} {b:B} (hw:bu ops t o=some true) (hv:dq P G (aY G t) V o.op= .enter f args b)
  (h:aT P G f args b fun v V'=>∃t',dc t n o.dst v=some t'/\bG P G ops n l t' V' Q):bG P G ops n (o::l) t V Q:=by
 obtain⟨K,v,V',h1,t',hp,m,e,u,A,h3,h4⟩:=h;refine⟨max K m,e,u,A,fun d k hk=>?_,h4⟩;show gq P G (dF P G k) true ops n o t V (rv P G (dF P G k) ops n d l)=_
 grind [gq,jH]
theorem bj {ops:Array Oper} (h:Q .normal t V):cu P G ops n [] t V Q:=⟨0,.normal,t,V,fun _ _ _=>Z,h⟩
theorem al {ops:Array Oper} {i:Nat} {o:Oper} {l:List (Nat×List Nat)} {v:Y} {t':D Y} {V':B} (hi:ops[i]? =some o) (hw:bu ops t o=some true) (hv:dq P G (aY G t) V o.op= .val v V') (hp:dc t n o.dst v=some t') (h:cu P G ops n l t' V' Q):cu P G ops n ((i,[])::l) t V Q:=by
 obtain⟨K,e,b,m,h1,u⟩:=h;refine⟨K,e,b,m,fun d k hk=>?_,u⟩
 show(match ops[i]? with
  | some o=>gq P G (dF P G k) false ops n o t V (fun t' V'=>bif cY P G ops t' V' [] then iQ P G (dF P G k) ops n d l t' V' else .err 86)
  | none=>.err 87)=_
 rw[hi];unfold gq;dsimp only;rw[hw];dsimp only;rw[hv];dsimp only[jH];rw[hp];exact h1 d k hk
theorem aF {ops:Array Oper} {i:Nat} {o:Oper} {l:List (Nat×List Nat)} {t':D Y} (hi:ops[i]? =some o) (hw:bu ops t o=some false) (hp:dc t n o.dst unit=some t') (h:cu P G ops n l t' V Q):cu P G ops n ((i,[])::l) t V Q:=by
 obtain⟨K,e,b,m,h1,u⟩:=h;refine⟨K,e,b,m,fun d k hk=>?_,u⟩
 show(match ops[i]? with
  | some o=>gq P G (dF P G k) false ops n o t V (fun t' V'=>bif cY P G ops t' V' [] then iQ P G (dF P G k) ops n d l t' V' else .err 86)
  | none=>.err 87)=_
 rw[hi];unfold gq;dsimp only;rw[hw];dsimp only;rw[hp];exact h1 d k hk
theorem AJ {ops:Array Oper} {i:Nat} {o:Oper} {rc:List Nat} {l:List (Nat×List Nat)} {f:Nat} {args:List Y} {b:B} (hi:ops[i]? =some o) (hw:bu ops t o=some true) (hv:dq P G (aY G t) V o.op= .enter f args b)
  (h:aT P G f args b fun v V'=>∃t',dc t n o.dst v=some t'/\cY P G ops t' V' rc=true/\cu P G ops n l t' V' Q):cu P G ops n ((i,rc)::l) t V Q:=by
 obtain⟨K,v,V',h1,t',hp,hs,m,e,u,A,h3,h4⟩:=h;refine⟨max K m,e,u,A,fun d k hk=>?_,h4⟩
 show(match ops[i]? with
  | some o=>gq P G (dF P G k) false ops n o t V (fun t' V'=>bif cY P G ops t' V' rc then iQ P G (dF P G k) ops n d l t' V' else .err 86)
  | none=>.err 87)=_
 grind [gq,jH]
end
theorem Ek {f:Nat} {fn:Func} {c:Code} {args:List Y} {V:B} {R:Y->B->Prop} {t:D Y} (d:G.w9 f args V=none) (m:G.Jg f args=none) (b:G.stop f args V=none) (u:G.fk f=false)
  (hf:P.funcs[f]? =some fn) (hb:fn.body=some c) (A:pL fn.ntmps args=some t)
  (h:Ev P G c fn.ntmps t V fun e t' V'=>(e= .normal∨e= .ret)/\∃v,dB P fn t' V'=some v/\R v V'):aT P G f args V R:=by
 obtain⟨K,e,t',V',h1,he,v,h2,C⟩:=h;refine⟨K,v,V',fun k hk=>?_,C⟩;unfold js;rw[d];dsimp only;rw[m];dsimp only;rw[b];dsimp only;rw[u];simp only[cond_false];unfold kS;rw[hf];dsimp only;rw[hb,A];dsimp only;rw[h1 [] none k hk];rcases he with rfl | rfl<;>
 ·dsimp only;unfold w4;rw[show sC P G (dF P G k) [] .ret V'=some (.ret,V') from Z]
  simp_all
theorem HC {f:Nat} {args:List Y} {V:B} {R:Y->B->Prop} {v:Y} (aa:G.w9 f args V=none) (ab:G.Jg f args=some v) (h1:eH args=true) (h2:pW v=true) (h3:sB G.gl V G.laid=true) (h:R v V):aT P G f args V R:=by
 refine⟨0,v,V,fun k _=>?_,h⟩
 grind [js]
end
def oi (P:Program):List Field->Nat->Option Nat
  | [],off=>some off
  | f::r,off=>if f.offset=off then oi P r (off+P.cellsOf f.type) else none
def cT {H_:Type} (P:Program) (V:B):Nat->TypeId->DataW H_->List Y->Prop
  | 0,_,_,_=>False
  | fuel+1,t,d,vs=>
    match P.underlying t,d with
    | some .bool,.lit (.bool b)=>vs= [.bool b]
    | some (.int k),.lit (.int k' n)=>k'=k/\(Lit.int k n).wf=true/\vs= [.int k n]
    | some .string,.lit (.string s)=>s.length<=maxLen/\vs= [.str<|s.map UInt8.toNat]
    | some (.slice _),.nil=>vs= [.aB]
    | some (.slice e),.slice elems spare=>1<=P.cellsOf e->∃(b:Nat) (c:nj) (cells:List Y) (e':Nat),vs= [.slice b 0 elems.length c]/\elems.length<=maxLen/\V.m.get b=some (.row cells e' true)/\
        (c= .known (elems.length+spare.length)∨c= .upto (P.cellsOf e))/\cells.length=elems.length*P.cellsOf e/\
        ∀(i:Nat) (x:DataW H_),elems[i]? =some x->cT P V fuel e x ((cells.drop (i*P.cellsOf e)).take<|P.cellsOf e)
    | some (.struct fs),.agg parts=>oi P fs.toList 0=some (P.cellsOf t)->parts.length=fs.size/\vs.length=P.cellsOf t/\
        ∀(i:Nat) (f:Field) (x:DataW H_),fs[i]? =some f->parts[i]? =some x->cT P V fuel f.type x ((vs.drop f.offset).take<|P.cellsOf f.type)
    | some (.array n e),.agg parts=>P.cellsOf t=n*P.cellsOf e->parts.length=n/\vs.length=P.cellsOf t/\
        ∀(i:Nat) (x:DataW H_),parts[i]? =some x->cT P V fuel e x ((vs.drop (i*P.cellsOf e)).take<|P.cellsOf e)
    | _,_=>True
theorem cT.mono {H_:Type} {P:Program} {V V':B} (he:∀(b:Pos) (o:bU),V.m.get b=some o->V'.m.get b=some o):∀(fuel:Nat) (t:TypeId) (d:DataW H_) (vs:List Y),cT P V fuel t d vs->cT P V' fuel t d vs
  | 0,_,_,_,h=>h
  | fuel+1,t,d,vs,h=>by
    unfold cT at h⊢;split at h
    · exact h
    · exact h
    · exact h
    · exact h
    · intro h1
      obtain⟨b,c,cells,e',u,A,C,E,F,G⟩:=h h1;exact⟨b,c,cells,e',u,A,he _ _ C,E,F,fun i x hx=>cT.mono he fuel _ _ _ (G i x hx)⟩
    · intro h1
      obtain⟨u,A,C⟩:=h h1;exact⟨u,A,fun i f x hf hx=>cT.mono he fuel _ _ _ (C i f x hf hx)⟩
    · intro h1
      obtain⟨u,A,C⟩:=h h1;exact⟨u,A,fun i x hx=>cT.mono he fuel _ _ _ (C i x hx)⟩
    · trivial
theorem cA.flatten {O:Ren}:∀{vss:List (List Y)} {css:List (List Value)},vss.length=css.length->(∀(i:Nat) (vs:List Y) (cs:List Value),vss[i]? =some vs->css[i]? =some cs->cA O vs cs)->cA O vss.flatten css.flatten
  | [],[],_,_=>cA.nil
  | [],_::_,h,_=>by simp at h
  | _::_,[],h,_=>by simp at h
  | vs::vss,cs::css,h,hh=>by
    rw[List.flatten_cons,List.flatten_cons];exact(hh 0 vs cs Z Z).append (cA.flatten (by simpa using h) fun i a b d hb=>hh (i+1) a b (by simpa using d) (by simpa using hb))
theorem lG {α:Type} {m:Nat}:∀{l:List (List α)} {i:Nat} {x:List α},(∀y∈l,y.length=m)->l[i]? =some x->(l.flatten.drop (i*m)).take m=x
  | [],i,x,_,h=>by simp at h
  | y::l,0,x,hm,h=>by
    simp at h;subst h;have hy:=hm y (by simp);simp[<-hy]
  | y::l,i+1,x,hm,h=>by
    have hy:=hm y (by simp);simp only[List.getElem?_cons_succ] at h;rw[List.flatten_cons,show(i+1)*m=y.length+i*m by rw[hy,Nat.succ_mul,Nat.add_comm],List.drop_append,List.drop_eq_nil_of_le oM,List.nil_append,Nat.add_sub_cancel_left];exact lG (fun z hz=>hm z (by simp[hz])) h
theorem nH {α:Type} {m:Nat}:∀{l:List (List α)},(∀y∈l,y.length=m)->l.flatten.length=l.length*m
  | [],_=>by simp
  | y::l,hm=>by
    rw[List.flatten_cons,lA_,hm y (by simp),nH fun z hz=>hm z (by simp[hz]),List.length_cons,Nat.succ_mul,Nat.add_comm]
theorem lS {α:Type} {P:Program}:∀{fs:List Field} {off fin:Nat} {cs:List α},oi P fs off=some fin->fin<=cs.length->(fs.map fun f=>(cs.drop f.offset).take (P.cellsOf f.type)).flatten=(cs.drop off).take (fin-off)/\off<=fin
  | [],off,fin,cs,h,_=>by simp only[oi,oJ_] at h;subst h;simp
  | f::fs,off,fin,cs,h,hl=>by
    simp only[oi] at h;split at h
    · rename_i b
      obtain⟨h1,h2⟩:=lS h hl;refine⟨?_,by omega⟩;rw[List.map_cons,List.flatten_cons,h1,b];rw[show fin-off=P.cellsOf f.type+(fin-(off+P.cellsOf f.type)) by omega,List.take_add,List.drop_drop]
    · cases h
theorem tK {α:Type} {P:Program}:∀{fs:List Field} {vss:List (List α)} {off fin:Nat},oi P fs off=some fin->(∀(i:Nat) (f:Field) (vs:List α),fs[i]? =some f->vss[i]? =some vs->vs.length=P.cellsOf f.type)->vss.length=fs.length->
    ∀{i:Nat} {f:Field} {vs:List α},fs[i]? =some f->vss[i]? =some vs->off<=f.offset/\(vss.flatten.drop (f.offset-off)).take (P.cellsOf f.type)=vs
  | [],vss,off,fin,h,hl,d,i,f,vs,hf,hv=>by simp at hf
  | g::fs,[],off,fin,h,hl,d,i,f,vs,hf,hv=>by simp at hv
  | g::fs,w::vss,off,fin,h,hl,d,i,f,vs,hf,hv=>by
    simp only[oi] at h;split at h
    · rename_i ho
      have hw:=hl 0 g w Z Z;cases i with
      | zero=>
        simp_all
      | succ i=>
        simp only[List.getElem?_cons_succ] at hf hv;obtain⟨h1,h2⟩:=tK h (fun i f vs a b=>hl (i+1) f vs (by simpa using a) (by simpa using b)) (by simpa using d) hf hv
        grind [List.drop_append,List.drop_eq_nil_of_le]
    · cases h
def hJ (V:B):Prop:=∀b o,V.m.get b=some o->o.ro=true
structure Lay (O:Ren) (V:B) (O':Ren) (V':B):Prop where
  le:O.le O'
  get:∀(b:Pos) (o:bU),V.m.get b=some o->V'.m.get b=some o
theorem Lay.refl (O:Ren) (V:B):Lay O V O V:=⟨Ren.le_refl O,fun _ _ h=>h⟩
theorem Lay.trans {O ρ₁ ρ₂:Ren} {V d V2:B} (h:Lay O V ρ₁ d) (h':Lay ρ₁ d ρ₂ V2):Lay O V ρ₂ V2:=⟨Ren.le_trans h.le h'.le,fun b o hb=>h'.get b o (h.get b o hb)⟩
theorem Inv.LG {O:Ren} {V:B} {w:World} (hi:Inv O V w) (K:hJ V) {l:Loc} {o:bU} {x:Obj} (hx:w.heap[l.cH]? =some x) (L:fm O l o x) (aa:o.ro=true):
    Inv (O.with V.next l) (V.alloc o) w/\hJ (V.alloc o)/\Lay O V (O.with V.next l) (V.alloc o):=by
  have hle:=hi.uu l;have G:l.cH<w.heap.size:=(aS_.1 hx).1;have A:∀b l',b≠V.next->(O.with V.next l) b=some l'->O b=some l':=fun b l' hb h=>by rwa[Ren.dt O l hb] at h
  have u:∀b,b≠V.next->(V.alloc o).m.get b=V.m.get b:=fun b hb=>D.cK _ _ _ _ hb
  have C:(V.alloc o).m.get V.next=some o:=D.cN _ _ _
  have d:hJ (V.alloc o):=fun b q hb=>by
    by_cases e:b=V.next
    · simp_all
    · rw[u b e] at hb;exact K b q hb
  refine⟨⟨⟨fun b hb=>?_,fun b l' hb=>?_,fun b o' l' hb E=>?_,fun b b' o₁ o₂ l₁ l₂ h1 F _ _ _ _=>⟨d b o₁ h1,d b' o₂ F⟩⟩,hi.mb.size,hi.mb.same,fun r _ ⟨b,o,l,h1,F,_,_⟩=>by rw[d b o h1] at F;cases F⟩,d,hle,fun b q hb=>?_⟩
  · have ab:V.next.num+1<=b.num:=by simpa [B.alloc,Pos.gp] using hb
    have hne:b≠V.next:=fun e=>by subst e;omega
    rw[Ren.dt O l hne,u b hne];exact hi.fresh b oM
  · by_cases hne:b=V.next
    · subst hne;rw[Ren.bQ] at hb;cases hb;exact G
    · exact hi.cH b l'<|A b l' hne hb
  · by_cases hne:b=V.next
    · subst hne
      rw[Ren.bQ] at E;rw[C] at hb;cases hb;cases E;exact⟨x,hx,L.mono hle⟩
    · rw[u b hne] at hb
      obtain⟨y,hy,I⟩:=hi.obj b o' l' hb (A b l' hne E);exact⟨y,hy,I.mono hle⟩
  · have hne:b≠V.next:=fun e=>by subst e;rw[(hi.fresh _<|nR_ _).2] at hb;cases hb
    simp_all
section
variable {H_:Type} {enc:TypeId×Value->H_} {P:Program} {w:World}
def G3 (enc:TypeId×Value->H_) (P:Program) (w:World) (fuel:Nat) (t:TypeId) (cs:List Value) (d:DataW H_):Prop:=
  ∀(O:Ren) (V:B),Inv O V w->hJ V->∃(O':Ren) (V':B) (vs:List Y),Inv O' V' w/\hJ V'/\Lay O V O' V'/\cT P V' fuel t d vs/\cA O' vs cs
theorem NL {O:Ren}:∀(cs:List Value),cA O (cs.map fun _=>Y.any) cs
  | []=>cA.nil
  | _::cs=>cA.cons (by simp only[VR]) (NL cs)
theorem oN {fuel:Nat} (ih:∀t cs d p,DataW.trod enc P w 0 (fun _=>true) true fuel t cs=some (d,p)->G3 enc P w fuel t cs d):
    ∀(l:List (TypeId×List Value)) (xs:List (DataW H_×List MemPlace)),(l.mapM fun q=>DataW.trod enc P w 0 (fun _=>true) true fuel q.1 q.2)=some xs->∀(O:Ren) (V:B),Inv O V w->hJ V->
      ∃(O':Ren) (V':B) (vss:List (List Y)),Inv O' V' w/\hJ V'/\Lay O V O' V'/\vss.length=l.length/\xs.length=l.length/\∀(i:Nat) (q:TypeId×List Value) (x:DataW H_×List MemPlace) (vs:List Y),l[i]? =some q->xs[i]? =some x->vss[i]? =some vs->cT P V' fuel q.1 x.1 vs/\cA O' vs q.2
  | [],xs,h,O,V,hi,b=>by
    simp at h;subst h;exact⟨O,V,[],hi,b,Lay.refl _ _,Z,Z,fun i q x vs hq=>by simp at hq⟩
  | q::l,xs,h,O,V,hi,b=>by
    simp only[List.mapM_cons,Option.bind_eq_bind,Option.bind_eq_some_iff,Option.pure_def,oJ_] at h;obtain⟨⟨d,p⟩,h1,r,m,rfl⟩:=h;obtain⟨ρ₁,u,vs,A,C,l1,E,F⟩:=ih _ _ _ _ h1 O V hi b;obtain⟨ρ₂,G,vss,I,K,l2,L,M,hh⟩:=oN ih l r m ρ₁ u A C;refine⟨ρ₂,G,vs::vss,I,K,l1.trans l2,by simp[L],by simp[M],fun i q' x vs' hq hx hv=>?_⟩;cases i with
    | zero=>
      simp at hq hx hv;subst hq;subst hx;subst hv;exact⟨cT.mono l2.get _ _ _ _ E,cA.mono l2.le _ _ F⟩
    | succ i=>grind
theorem kD {α β:Type} {f:α->Option β}:∀{l:List α} {ys:List β},l.mapM f=some ys->ys.length=l.length/\∀(i:Nat) (y:β),ys[i]? =some y->∃x,l[i]? =some x/\f x=some y
  | [],ys,h=>by simp_all
  | x::l,ys,h=>by
    simp only[List.mapM_cons,Option.bind_eq_bind,Option.bind_eq_some_iff,Option.pure_def,oJ_] at h;obtain⟨y,h1,r,b,rfl⟩:=h;obtain⟨k1,k2⟩:=kD b
    grind
theorem sE {α β γ:Type} {f:α->Option β} {g:β->Option γ}:∀{l:List α} {xs:List γ},(l.mapM fun a=>(f a).bind g)=some xs->∃ys,l.mapM f=some ys/\ys.mapM g=some xs
  | [],xs,h=>by simp_all
  | a::l,xs,h=>by
    simp only[List.mapM_cons,Option.bind_eq_bind,Option.bind_eq_some_iff,Option.pure_def,oJ_] at h;obtain⟨x,⟨b,h1,h2⟩,r,d,rfl⟩:=h;obtain⟨ys,k1,k2⟩:=sE d
    simp_all
theorem mapM_map {α β γ:Type} {f:α->β} {g:β->Option γ}:∀(l:List α),(l.map f).mapM g=l.mapM fun a=>g (f a)
  | []=>rfl
  | a::l=>by simp only[List.map_cons,List.mapM_cons,mapM_map l]
theorem chunks_flatten {α:Type} {m:Nat} (L:List α):∀(n:Nat),((List.range n).map fun k=>(L.drop (k*m)).take m).flatten=L.take (n*m)
  | 0=>by simp
  | n+1=>by
    rw[List.range_succ,List.map_append,List.flatten_append,chunks_flatten L n];simp only[List.map_cons,List.map_nil,List.flatten_cons,List.flatten_nil,List.append_nil];rw[Nat.succ_mul,List.take_add]
theorem uJ {a:Addr} {n:Nat} {cs:List Value} (h:w.cells? 0 a n=some cs) (hn:1<=n):∃(c:Array Value) (e:TypeId) (fr:Nat×Nat),w.heap[a.block]? =some (Obj.cells c e fr)/\a.spot=none/\a.off+n<=c.size/\cs=(c.toList.drop a.off).take n:=by
  unfold World.cells? at h;rw[if_pos<|Nat.zero_le _] at h;obtain⟨A,C⟩:=kD h;have A:cs.length=n:=by simpa using A
  have h0:∃(c:Array Value) (e:TypeId) (fr:Nat×Nat),w.heap[a.block]? =some (Obj.cells c e fr)/\a.spot=none:=by
    have b:0<cs.length:=by omega
    obtain⟨x,hx,m⟩:=C 0 cs[0] (gC b)
    have:x=0:=by
      grind
    subst this;have E:a.add 0=a:=by simp[Addr.add]
    rw[E] at m;unfold World.cell? at m;split at m
    · simp_all
    · cases m
  obtain⟨c,e,fr,hh,F⟩:=h0
  have d:∀i y,cs[i]? =some y->c[a.off+i]? =some y:=fun i y hy=>by
    grind [Addr.add_eq,cell?_of_heap]
  have u:a.off+n<=c.size:=by
    have b:n-1<cs.length:=by omega
    have:=d (n-1) cs[n-1] (gC b)
    grind
  refine⟨c,e,fr,hh,F,u,?_⟩;apply List.ext_getElem?
  grind
theorem BS {P:Program}:∀{fs:List Field} {off fin:Nat},oi P fs off=some fin->∀f∈fs,f.offset+P.cellsOf f.type<=fin
  | [],off,fin,h,f,hf=>by cases hf
  | g::fs,off,fin,h,f,hf=>by
    simp only[oi] at h;split at h
    · rename_i ho
      rcases mQ_.1 hf with rfl | hf
      · have:=(lS (P:=P) (cs:=List.replicate fin ()) h (by simp)).2
        omega
      · exact BS h f hf
    · cases h
theorem H5 (hw:∃(r:Nat) (c:Array Value) (e:TypeId) (fr:Nat×Nat),w.heap[r]? =some (Obj.cells c e fr)) {fuel:Nat} (ih:∀t cs d p,DataW.trod enc P w 0 (fun _=>true) true fuel t cs=some (d,p)->G3 enc P w fuel t cs d) {t e:TypeId} {a:Addr} {len cap:Nat} {d:DataW H_} {p:List MemPlace} (hu:P.underlying t=some (.slice e))
    (h:(if 0<=a.block/\len<=cap/\cap<=maxLen then
        ((List.range len).mapM fun i=>(w.cells? 0 (a.add (i*P.cellsOf e))<|P.cellsOf e).bind (DataW.trod enc P w 0 (fun _=>true) true fuel e)).bind fun elems=>
          (if(fun _=>true) a.block=true then(List.range (cap-len)).mapM fun j=>(w.cells? 0 (a.add ((len+j)*P.cellsOf e))<|P.cellsOf e).bind (DataW.trod enc P w 0 (fun _=>true) true fuel e) else some []).map fun rest=>
            (DataW.slice (elems.map (·.1))<|rest.map (·.1),MemPlace.row a ((elems.length+rest.length)*P.cellsOf e)++(elems++rest).flatMap (·.2))
      else none)=some (d,p)) {O:Ren} {V:B} (hi:Inv O V w) (hr:hJ V):
    ∃(O':Ren) (V':B) (vs:List Y),Inv O' V' w/\hJ V'/\Lay O V O' V'/\cT P V' (fuel+1) t d vs/\cA O' vs [Value.slice (some a) len cap]:=by
  split at h
  · rename_i hc
    obtain⟨_,av,aE⟩:=hc;obtain⟨elems,hE,h⟩:=Option.bind_eq_some_iff.1 h;obtain⟨rest,hR,h⟩:=oM_.1 h;rw[if_pos Z] at hR;have hd:d= .slice (elems.map (·.1)) (rest.map (·.1)):=by have:=congrArg Prod.fst h;simpa using this.symm
    subst hd;have m:elems.length=len:=by have:=(kD hE).1;simpa using this
    have aa:rest.length=cap-len:=by have:=(kD hR).1;simpa using this
    by_cases K:1<=P.cellsOf e
    · obtain⟨css,ac,hex⟩:=sE hE
      obtain⟨kcs,I⟩:=kD ac;have kcs:css.length=len:=by simpa using kcs
      have R:∀k,(a.add k).block=a.block/\(a.add k).off=a.off+k:=fun k=>by
        unfold Addr.add;split
        · rename_i h0;subst h0;exact⟨Z,Z⟩
        · exact⟨Z,Z⟩
      have C:a.add 0=a:=by simp[Addr.add]
      by_cases h0:len=0/\cap=0
      · obtain⟨rfl,rfl⟩:=h0
        obtain⟨r,c,e',fr,hh⟩:=hw;have E:fm O ⟨r,0,c.size⟩ (.row [] e' true) (.cells c e' fr):=⟨c,fr,Z,by simp,by simp,fun i v hv=>by simp at hv,fun h=>by cases h⟩;obtain⟨i1,r1,l1⟩:=hi.LG hr hh E Z;refine⟨_,_,[.slice V.next 0 0 (.upto<|P.cellsOf e)],i1,r1,l1,?_,cA.cons ?_ cA.nil⟩
        · unfold cT
          rw[hu];dsimp only;intro _;have ak:elems= []:=eN_ m;subst ak;exact⟨V.next,_,[],e',Z,by simp,D.cN _ _ _,.inr Z,by simp,fun i x hx=>by simp at hx⟩
        · simp only[VR]
          refine⟨_,Ren.bQ _ _ _,.inr ?_⟩;simp
      · have hblk:∃(c:Array Value) (e':TypeId) (fr:Nat×Nat),w.heap[a.block]? =some (Obj.cells c e' fr)/\a.spot=none/\a.off<=c.size:=by
          have go:∀cs:List Value,w.cells? 0 a (P.cellsOf e)=some cs->∃(c:Array Value) (e':TypeId) (fr:Nat×Nat),w.heap[a.block]? =some (Obj.cells c e' fr)/\a.spot=none/\a.off<=c.size:=fun cs hk=>by
            obtain⟨c,e',fr,h1,h2,h3,_⟩:=uJ hk K;exact⟨c,e',fr,h1,h2,by omega⟩
          by_cases hl:len=0
          · subst hl
            obtain⟨dss,am,_⟩:=sE hR;obtain⟨k1,k2⟩:=kD am;have k1:dss.length=cap-0:=by simpa using k1
            have b:0<dss.length:=by omega
            obtain⟨x,F,hx⟩:=k2 0 dss[0] (gC b);have:x=0:=by rw[List.getElem?_range oM] at F;exact(Option.some.inj F).symm
            subst this;rw[nA_,Nat.zero_mul,C] at hx;exact go _ hx
          · have b:0<css.length:=by omega
            obtain⟨x,F,hx⟩:=I 0 css[0] (gC b);have:x=0:=by rw[List.getElem?_range oM] at F;exact(Option.some.inj F).symm
            subst this;rw[Nat.zero_mul,C] at hx;exact go _ hx
        obtain⟨c,e',fr,hh,G,an⟩:=hblk
        have L:∀(i:Nat) (y:List Value),css[i]? =some y->a.off+(i+1)*P.cellsOf e<=c.size/\y=((c.toList.drop a.off).drop (i*P.cellsOf e)).take (P.cellsOf e):=fun i y hy=>by
          obtain⟨x,hx,ap⟩:=I i y hy;have A:i<len:=by rw[<-kcs];exact(gA.1 hy).1
          have:x=i:=by rw[List.getElem?_range A] at hx;exact(Option.some.inj hx).symm
          subst this;obtain⟨c2,e2,a0,h1,h2,h3,h4⟩:=uJ ap K;obtain⟨q1,q3⟩:=R (x*P.cellsOf e);rw[q1,hh] at h1;cases h1;rw[q3] at h3 h4;exact⟨by rw[Nat.succ_mul];omega,by rw[h4,List.drop_drop]⟩
        have aq:a.off+len*P.cellsOf e<=c.size:=by
          by_cases hl:len=0
          · subst hl;omega
          · have b:len-1<css.length:=by omega
            have:=(L (len-1) css[len-1]<|gC b).1;rwa[show len-1+1=len by omega] at this
        have T:∀(i:Nat) (y:List Value),css[i]? =some y->y.length=P.cellsOf e:=fun i y hy=>by
          obtain⟨k1,k2⟩:=L i y hy;rw[k2,lT_,lD_,lD_,Array.length_toList];rw[Nat.succ_mul] at k1;omega
        have M:css=(List.range len).map fun k=>((c.toList.drop a.off).drop (k*P.cellsOf e)).take (P.cellsOf e):=by
          apply List.ext_getElem?;intro i;rw[gM_]
          by_cases A:i<len
          · rw[List.getElem?_range A]
            have b:i<css.length:=by omega
            rw[gC b];exact congrArg some (L i css[i]<|gC b).2
          · rw[gN_ oM,gN_ (by simp;omega)];rfl
        obtain⟨ρ₁,V1,vss,i1,r1,l1,n1,n2,Q⟩:=oN ih (css.map fun cs=>(e,cs)) elems (by rw[mapM_map];exact hex) O V hi hr;have n1:vss.length=css.length:=by simpa using n1
        have hV:cA ρ₁ vss.flatten css.flatten:=cA.flatten n1 fun i vs cs hv U=>by
          have b:i<elems.length:=by rw[m,<-kcs];exact(gA.1 U).1
          exact(Q i (e,cs) elems[i] vs (by rw[gM_,U];rfl) (gC b) hv).2
        have W:∀vs∈vss,vs.length=P.cellsOf e:=fun vs hv=>by
          obtain⟨i,A,rfl⟩:=List.getElem_of_mem hv;have b:i<css.length:=by omega
          have u:i<elems.length:=by omega
          have:=(Q i (e,css[i]) elems[i] vss[i] (by rw[gM_,gC b];rfl) (gC u)<|gC A).2.length;rw[<-this];exact T i _<|gC b
        have X:vss.flatten.length=len*P.cellsOf e:=by rw[nH W,n1,kcs]
        rw[M,chunks_flatten] at hV
        have E:fm ρ₁ ⟨a.block,a.off,c.size-a.off⟩ (.row vss.flatten e' true) (.cells c e' fr):=by
          refine⟨c,fr,Z,by show c.size=a.off+(c.size-a.off);omega,by rw[X];show _<=c.size-a.off;omega,fun i v hv=>?_,fun h=>by cases h⟩;obtain⟨y,hy,au⟩:=hV.get hv;rw[List.getElem?_take] at hy;split at hy
          · rw[List.getElem?_drop,aT_] at hy
            exact⟨y,hy,au⟩
          · cases hy
        obtain⟨i2,r2,l2⟩:=i1.LG r1 hh E Z;refine⟨_,_,[.slice V1.next 0 len (.known cap)],i2,r2,l1.trans l2,?_,cA.cons ?_ cA.nil⟩
        · unfold cT
          rw[hu];dsimp only;intro _;refine⟨V1.next,_,vss.flatten,e',by rw[lM_,m],by rw[lM_,m];omega,D.cN _ _ _,.inl (by rw[lM_,lM_,m,aa];congr 1;omega),by rw[X,lM_,m],fun i x hx=>?_⟩;rw[gM_] at hx;cases hy:elems[i]? with
          | none=>rw[hy] at hx;cases hx
          | some y=>
            rw[hy] at hx;cases hx;have A:i<len:=by rw[<-m];exact(gA.1 hy).1
            have b:i<css.length:=by omega
            have u:i<vss.length:=by omega
            rw[lG W<|gC u];exact cT.mono l2.get _ _ _ _ (Q i (e,css[i]) y vss[i] (by rw[gM_,gC b];rfl) hy<|gC u).1
        · simp only[VR]
          refine⟨_,Ren.bQ _ _ _,?_⟩;obtain⟨ab,ao,as⟩:=a;dsimp only at G⊢;subst G;rfl
    · refine⟨O,V,[.any],hi,hr,Lay.refl _ _,?_,cA.cons (by simp only[VR]) cA.nil⟩
      unfold cT;rw[hu];exact fun h'=>absurd h' K
  · cases h
theorem lay (hw:∃(r:Nat) (c:Array Value) (e:TypeId) (fr:Nat×Nat),w.heap[r]? =some (Obj.cells c e fr)):∀(fuel:Nat) (t:TypeId) (cs:List Value) (d:DataW H_) (p:List MemPlace),DataW.trod enc P w 0 (fun _=>true) true fuel t cs=some (d,p)->G3 enc P w fuel t cs d
  | 0,t,cs,d,p,h=>by simp[DataW.trod] at h
  | fuel+1,t,cs,d,p,h=>by
    intro O V hi R;have ih:=lay hw fuel
    have other:(∀vs:List Y,cT P V (fuel+1) t d vs)->∃(O':Ren) (V':B) (vs:List Y),Inv O' V' w/\hJ V'/\Lay O V O' V'/\cT P V' (fuel+1) t d vs/\cA O' vs cs:=fun hd=>
      ⟨O,V,_,hi,R,Lay.refl _ _,hd _,NL cs⟩
    have one:∀{v:Y} {x:Value},cs= [x]->(∀O:Ren,VR O v x)->cT P V (fuel+1) t d [v]->∃(O':Ren) (V':B) (vs:List Y),Inv O' V' w/\hJ V'/\Lay O V O' V'/\cT P V' (fuel+1) t d vs/\cA O' vs cs:=fun {v x} G hv hd=>by
      subst G;exact⟨O,V,[v],hi,R,Lay.refl _ _,hd,cA.cons (hv O) cA.nil⟩
    cases hu:P.underlying t with
    | none=>exact other fun vs=>by unfold cT;rw[hu];trivial
    | some u=>
      unfold DataW.trod at h;rw[hu] at h;cases u with
      | bool=>
        split at h<;>first | (rename_i he;cases he;done) | skip
        all_goals first
          | (rename_i b he
             cases h;exact one (v:=.bool b) Z (fun O=>by simp only[VR]) (by unfold cT;rw[hu]))
          | cases h
      | int k=>
        split at h<;>first | (rename_i he;cases he;done) | skip
        all_goals first
          | (rename_i X T n he
             cases he;split at h
             · rename_i hk
               obtain⟨aa,ab⟩:=hk;subst aa;cases h;exact one (v:=.int T n) Z (fun O=>by simp only[VR]) (by unfold cT;rw[hu];exact⟨Z,ab,Z⟩)
             · cases h)
          | cases h
      | string=>
        split at h<;>first | (rename_i he;cases he;done) | skip
        all_goals first
          | (rename_i s he
             split at h
             · rename_i hk
               cases h;exact one (v:=.str<|s.data.toList.map UInt8.toNat) Z (fun O=>by simp only[VR];exact⟨s,Z,Z⟩) (by unfold cT;rw[hu];exact⟨by simpa using hk,Z⟩)
             · cases h)
          | cases h
      | struct fs=>
        dsimp only at h;split at h
        · rename_i hlen
          obtain⟨xs,L,hx⟩:=oM_.1 h;have hd:d= .agg (xs.map (·.1)):=by have:=congrArg Prod.fst hx;simpa using this.symm
          subst hd
          by_cases I:oi P fs.toList 0=some (P.cellsOf t)
          · obtain⟨ρ₁,U,vss,i1,r1,l1,F,K,hh⟩:=oN ih (fs.toList.map fun f=>(f.type,(cs.drop f.offset).take<|P.cellsOf f.type)) xs (by rw[mapM_map];exact L) O V hi R
            have hflat:=(lS (cs:=cs) I oM).1;have hle:=BS I;have F:vss.length=fs.toList.length:=by simpa using F
            have K:xs.length=fs.toList.length:=by simpa using K
            have E:∀(i:Nat) (f:Field) (vs:List Y),fs.toList[i]? =some f->vss[i]? =some vs->∃x,xs[i]? =some x/\cT P U fuel f.type x.1 vs/\cA ρ₁ vs ((cs.drop f.offset).take<|P.cellsOf f.type):=fun i f vs hf hv=>by
              have A:i<xs.length:=by rw[K];exact(gA.1 hf).1
              obtain⟨X,T⟩:=hh i (f.type,(cs.drop f.offset).take<|P.cellsOf f.type) xs[i] vs (by rw[gM_,hf];rfl) (gC A) hv;exact⟨xs[i],gC A,X,T⟩
            have M:∀(i:Nat) (f:Field) (vs:List Y),fs.toList[i]? =some f->vss[i]? =some vs->vs.length=P.cellsOf f.type:=fun i f vs hf hv=>by
              obtain⟨x,_,_,k⟩:=E i f vs hf hv;have h1:=k.length;have h2:=hle f (gB_ hf);rw[lT_,lD_] at h1;omega
            have W:cA ρ₁ vss.flatten cs:=by
              have:=cA.flatten (O:=ρ₁) (vss:=vss) (css:=fs.toList.map fun f=>(cs.drop f.offset).take (P.cellsOf f.type)) (by simpa using F) (fun i vs c hv G=>by
                rw[gM_] at G;cases hf:fs.toList[i]? with
                | none=>rw[hf] at G;cases G
                | some f=>
                  rw[hf] at G;cases G;obtain⟨x,_,_,k⟩:=E i f vs hf hv;exact k)
              rw[hflat,List.drop_zero,Nat.sub_zero,<-hlen,List.take_length] at this;exact this
            refine⟨ρ₁,U,vss.flatten,i1,r1,l1,?_,W⟩;unfold cT;rw[hu];dsimp only;intro _;refine⟨by simpa using K,by rw[<-hlen];exact W.length.symm,fun i f x hf hx=>?_⟩;have Q:fs.toList[i]? =some f:=by rw[aT_];exact hf
            have A:i<vss.length:=by rw[F];exact(gA.1 Q).1
            obtain⟨_,hp⟩:=tK I M F Q (gC A);obtain⟨y,hy,k,_⟩:=E i f vss[i] Q (gC A);rw[gM_,hy] at hx;cases hx;rw[Nat.sub_zero] at hp;rw[hp];exact k
          · exact other fun vs=>by unfold cT;rw[hu];exact fun h'=>absurd h' I
        · cases h
      | array m e=>
        dsimp only at h;split at h
        · rename_i hlen
          obtain⟨xs,L,hx⟩:=oM_.1 h;have hd:d= .agg (xs.map (·.1)):=by have:=congrArg Prod.fst hx;simpa using this.symm
          subst hd
          by_cases I:P.cellsOf t=m*P.cellsOf e
          · obtain⟨ρ₁,U,vss,i1,r1,l1,F,K,hh⟩:=oN ih ((List.range m).map fun i=>(e,(cs.drop (i*P.cellsOf e)).take<|P.cellsOf e)) xs (by rw[mapM_map];exact L) O V hi R
            have F:vss.length=m:=by simpa using F
            have K:xs.length=m:=by simpa using K
            have E:∀(i:Nat) (vs:List Y),vss[i]? =some vs->∃x,xs[i]? =some x/\cT P U fuel e x.1 vs/\cA ρ₁ vs ((cs.drop (i*P.cellsOf e)).take<|P.cellsOf e):=fun i vs hv=>by
              have C:i<m:=by rw[<-F];exact(gA.1 hv).1
              have A:i<xs.length:=by omega
              obtain⟨X,T⟩:=hh i (e,(cs.drop (i*P.cellsOf e)).take<|P.cellsOf e) xs[i] vs (by rw[gM_,List.getElem?_range C];rfl) (gC A) hv;exact⟨xs[i],gC A,X,T⟩
            have M:∀vs∈vss,vs.length=P.cellsOf e:=fun vs hv=>by
              obtain⟨i,C,rfl⟩:=List.getElem_of_mem hv;obtain⟨x,_,_,k⟩:=E i _ (gC C);have h1:=k.length;rw[lT_,lD_,hlen,I] at h1;have:(i+1)*P.cellsOf e<=m*P.cellsOf e:=nM_ _ oM;rw[Nat.succ_mul] at this;omega
            have W:cA ρ₁ vss.flatten cs:=by
              have:=cA.flatten (O:=ρ₁) (vss:=vss) (css:=(List.range m).map fun i=>(cs.drop (i*P.cellsOf e)).take (P.cellsOf e)) (by simpa using F) (fun i vs c hv G=>by
                obtain⟨x,_,_,k⟩:=E i vs hv;have C:i<m:=by rw[<-F];exact(gA.1 hv).1
                rw[gM_,List.getElem?_range C] at G;cases G;exact k)
              rw[chunks_flatten,<-I,<-hlen,List.take_length] at this;exact this
            refine⟨ρ₁,U,vss.flatten,i1,r1,l1,?_,W⟩;unfold cT;rw[hu];dsimp only;intro _;refine⟨by simpa using K,by rw[<-hlen];exact W.length.symm,fun i x hx=>?_⟩
            have C:i<vss.length:=by
              have:=(gA.1 hx).1;rw[lM_] at this;omega
            rw[lG M<|gC C];obtain⟨y,hy,k,_⟩:=E i vss[i] (gC C);rw[gM_,hy] at hx;cases hx;exact k
          · exact other fun vs=>by unfold cT;rw[hu];exact fun h'=>absurd h' I
        · cases h
      | slice e=>
        split at h<;>first | (rename_i he;cases he;done) | skip
        all_goals first
          | (rename_i he
             cases h;exact one (v:=.aB) Z (fun O=>by simp only[VR]) (by unfold cT;rw[hu]))
          | (rename_i e' a len cap he
             cases he;exact H5 hw ih hu h hi R)
          | cases h
      | _=>exact other fun vs=>by unfold cT;rw[hu];trivial
end
section
variable {P:Program} {G:Cx} {ev:Operand->Option Y} {V:B}
def Ext (V V':B):Prop:=V.next<=V'.next/\∀(b:Nat) (o:bU),b<V.next->V.m.get b=some o->V'.m.get b=some o
theorem Ext.refl (V:B):Ext V V:=⟨nR_ _,fun _ _ _ h=>h⟩
theorem Ext.trans {V d V2:B} (h:Ext V d) (h':Ext d V2):Ext V V2:=⟨Nat.le_trans h.1 h'.1,fun b o hb m=>h'.2 b o (Nat.lt_of_lt_of_le hb h.1) (h.2 b o hb m)⟩
theorem w7 (V:B) (o:bU):(V.alloc o).m.get V.next=some o:=D.cN _ _ _
theorem lH (V:B) (o:bU) {b:Nat} (h:b<V.next):(V.alloc o).m.get b=V.m.get b:=D.cK _ _ _ _ (Nat.ne_of_lt h)
theorem zi (V:B) (b:Nat) (o:bU):(V.setObj b o).m.get b=some o:=D.cN _ _ _
theorem lI (V:B) {b b':Nat} (o:bU) (h:b'≠b):(V.setObj b o).m.get b'=V.m.get b':=D.cK _ _ _ _ h
theorem Ext.alloc (V:B) (o:bU):Ext V (V.alloc o):=⟨Nat.le_succ _,fun b o' hb h=>by rw[lH V o hb];exact h⟩
theorem Ext.set {V d:B} (h:Ext V d) {b:Nat} (hb:V.next<=b) (o:bU):Ext V (d.setObj b o):=⟨h.1,fun c o' m u=>by rw[lI d o<|Nat.ne_of_lt<|Nat.lt_of_lt_of_le m hb];exact h.2 c o' m u⟩
theorem N {x:Operand} {v:Y} (h:ev x=some v):dq P G ev V (.move x)= .val v V:=by
 show(match ev x with | some v=>HR.val v V | none=>_)=_;rw[h]
theorem aj {x:Operand} {v:Y} (h:ev x=some v):dq P G ev V (.assign x)= .val v V:=by
 show(match ev x with | some v=>HR.val v V | none=>_)=_;rw[h]
theorem bK {op:Op} {v:Y} (hk:kindOf P op= .pure) (h:cS P ev op=some v):dq P G ev V op= .val v V:=by
 unfold dq;simp_all
theorem ot {op:Op} {v:Y} (hk:kindOf P op= .read) (h:eE P ev V op=some v):dq P G ev V op= .val v V:=by
 unfold dq;simp_all
theorem pA {op:Op} {ob:bU} {mk:Mk} (hk:kindOf P op= .alloc) (h:eF P ev op=some (ob,mk)):dq P G ev V op= .val (mk.of V.next) (V.alloc ob):=by
 unfold dq;simp_all
theorem gz {op:Op} {r:HR} (hk:kindOf P op= .jv) (h:eO P G.ov ev V op=r):dq P G ev V op=r:=by
 unfold dq;rw[hk];exact h
theorem aw {t:TypeId} {x:Operand} {b:Pos} {off:Nat} {cells:List Y} {e:Nat} {ro:Bool} {v:Y} (hx:ev x=some (.ptr b off)) (hb:V.m.get b=some (.row cells e ro)) (d:du P t=some none) (hv:nth cells off=some v):dq P G ev V (.load t x)= .val v V:=by
 refine ot Z ?_;simp only[eE,hx,hb,d,hv]
theorem bA {t:TypeId} {x:Operand} {b:Pos} {off n:Nat} {cells:List Y} {e:Nat} {ro:Bool} {vs:List Y} (hx:ev x=some (.ptr b off)) (hb:V.m.get b=some (.row cells e ro)) (u:du P t=some (some n)) (hl:off+n<=cells.length) (hv:(cells.drop off).take n=vs):dq P G ev V (.load t x)= .val (.agg vs) V:=by
 refine ot Z ?_;have d:Nat.ble (off+n) (cW cells)=true:=by rw[nE_,bN];exact hl
 simp only[eE,hx,hb,u,d,cond_true,cV,di,hv]
theorem ax {s:TypeId} {x:Operand} {i:Nat} {b:Pos} {off k:Nat} (hx:ev x=some (.ptr b off)) (hk:lZ P s i=some k):dq P G ev V (.fieldAddr s x i)= .val (.ptr b (off+k)) V:=by
 refine bK Z ?_;unfold lZ at hk;simp only[cS,hx];cases d:structOf P s with
 | none=>simp_all
 | some fs=>
  rw[d] at hk;dsimp only at hk⊢;cases hf:fs[i]? with
  | none=>simp_all
  | some f=>
   rw[hf] at hk;dsimp only at hk⊢;rw[nK] at hk
   grind
theorem Lm {t e:TypeId} {j:TypeInfo} {x i:Operand} {b:Pos} {off len n:Nat} {c:nj} {k:IntKind} (d:P.underlying t=some (.slice e)) (hj:P.info? e=some j) (hx:ev x=some (.slice b off len c)) (hi:ev i=some (.int k (.ofNat n))) (m:n<len):dq P G ev V (.indexAddr t x i)= .val (.ptr b (off+n*j.size)) V:=by
 refine bK Z ?_;have:Nat.ble (Nat.succ n) len=true:=by rw[nE_];exact m
 simp only[cS,d,hx,hi,hj,this,cond_true]
theorem Fp {c:Call} {t e:TypeId} {x:Operand} {b:Pos} {off len:Nat} {cp:nj} (d:c.callee= .builtin .len) (m:c.argTypes[0]? =some t) (u:c.args.toList= [x]) (hu:P.underlying t=some (.slice e)) (hx:ev x=some (.slice b off len cp)):dq P G ev V (.call c)= .val (.int .i64 (.ofNat len)) V:=by
 refine bK (by simp[kindOf,d,isMap,m,hu]) ?_;simp only[cS,d,m,u,hx,vC,hu,Option.map_some]
theorem aA {o:BinOp} {t r:TypeId} {x y:Operand} {a b v:Y} (hx:ev x=some a) (hy:ev y=some b) (h:qn P (xQ x || xQ y) o t a b=some v):dq P G ev V (.binOp o t x y r)= .val v V:=by
 refine bK Z ?_;simp only[cS,hx,hy,h]
theorem aI {c a b:Operand} {q:Bool} {v:Y} (d:ev c=some (.bool q)) (h:(if q then ev a else ev b)=some v):dq P G ev V (.pick c a b)= .val v V:=by
 refine bK Z ?_;cases q with
 | true=>simp only[cS,d];exact h
 | false=>simp only[cS,d];exact h
theorem dX {t:TypeId} {x:Operand} {q:Bool} (hx:ev x=some (.bool q)):dq P G ev V (.unOp .not t x)= .val (.bool (!q)) V:=by
 refine bK Z ?_;simp only[cS,hx];cases q<;>rfl
theorem cL {e:TypeId} {x:Operand} {v:Y} {cs:List Y} (hx:ev x=some v) (b:bZ v=some cs):dq P G ev V (.box e x)= .val (.ptr V.next 0) (V.alloc (.row cs e false)):=by
 exact pA (op:=.box e x) (mk:=.ptr) (ob:=.row cs e false) Z (by simp only[eF,hx,Option.bind_some,b])
theorem ea {e:TypeId} {cs:List Y} (hz:(ew P e).bind bZ=some cs) (b:pf P e=false):dq P G ev V (.alloc e)= .val (.ptr V.next 0) (V.alloc (.row cs e false)):=by
 exact pA (op:=.alloc e) (mk:=.ptr) (ob:=.row cs e false) Z (by simp only[eF,hz,b,cond_false])
theorem Lo {t:TypeId} {x y:Operand} {b:Pos} {off:Nat} {v:Y} {cs cells:List Y} {e:Nat} {j:TypeInfo} (hx:ev x=some (.ptr b off)) (hy:ev y=some v) (d:bZ v=some cs) (hb:V.m.get b=some (.row cells e false)) (hj:P.info? t=some j) (hl:cs.length=j.size) (hle:off+j.size<=cells.length) (aa:bJ cs=true):
  dq P G ev V (.store t x y)= .skip (V.setObj b (.row (dj cs cells off) e false)):=by
 refine gz Z ?_
 have h1:(Nat.beq (cW cs) j.size && Nat.ble (off+j.size) (cW cells) && bJ cs)=true:=by
  rw[bA_,bA_,Nat.beq_eq,nE_,bN,bN]
  simp_all
 simp only[eO,hx,hy,sT,d,hb,hj,h1,cond_true]
theorem aR {c:Call} {f:Operand} {g:Nat} {fi ca args:List Y} (b:c.callee= .value f) (hf:ev f=some (.func g fi ca)) (d:sm ev c.args.toList=some args) (m:pD P g=true):dq P G ev V (.call c)= .enter g (fi++(args++ca)) V:=by
 refine gz (by simp[kindOf,b]) ?_;simp only[eO,b,hf,d,uI,m,cond_true,dv]
end
end Go.Ev
namespace Go.Ev
theorem Fh {α:Type} (n:Nat) (t:iS α) (b:n<16):(wM n).run t ((iD n).run t)=t:=by
 rcases F6 b with rfl | rfl | rfl | rfl | rfl | rfl | rfl | rfl | rfl | rfl | rfl | rfl | rfl | rfl | rfl | rfl<;>rfl
theorem IH {α:Type} (t:gY α) (k:Nat) (hk:k<256):nX t k (iL t k)=t:=by
 unfold nX iL;rw[Fh (Nat.mod k 16) _<|Nat.mod_lt _ (by decide)];exact Fh (Nat.div k 16) _ (by show k/16<16;omega)
theorem D.KA {α:Type} {t:D α} {k:Nat} {o:Option α} (h:t.get k=o) (hk:k<256):t.put o k=t:=by
 subst h;rw[D.nJ _ hk];cases t with
 | mk s m l=>rw[D.rH _ _ _ _ hk];exact congrArg (fun s=>D.mk s m l)<|IH s k hk
def IL:D Y->List (Nat×Y)->D Y
 | t,[]=>t
 | t,(k,v)::l=>IL (t.put (some v) k) l
def L6 (t:D Y):List (Nat×Y)->Prop
 | []=>True
 | (k,v)::l=>t.get k=some v/\L6 t l
theorem L6.IL {t:D Y}:∀{l:List (Nat×Y)},L6 t l->(l.all fun x=>Nat.blt x.1 256)=true->IL t l=t
 | [],_,_=>rfl
 | (k,v)::l,h,hl=>by
  rw[List.all_cons,bA_] at hl;have hk:k<256:=by have:=hl.1;exact Nat.le_of_ble_eq_true this
  show Go.Ev.IL (t.put (some v) k) l=t;rw[D.KA h.1 hk];exact h.2.IL hl.2
section
variable [Env] {P:Program} {G:Cx} {ev:Operand->Option Y} {V:B}
theorem aN {id:Nat} {Q:Ex->D Y->B->Prop} {t:D Y} (h:Q .normal t V):jG id Q (.exit id) t V:=by
 show(if id=id then _ else _)
 simp_all
theorem yQ {id j:Nat} {Q:Ex->D Y->B->Prop} {t:D Y} (hj:Nat.beq j id=false) (h:Q (.exit j) t V):jG id Q (.exit j) t V:=by
 show(if j=id then _ else _);rw[if_neg (fun e=>by simp_all)];exact h
theorem aP {n i:Nat} {b:Code} {Q:Ex->D Y->B->Prop} {t:D Y} (h:Q (.exit i) t V):dT P G n b Q (.exit i) t V:=h
theorem az {n:Nat} {b:Code} {Q:Ex->D Y->B->Prop} {t:D Y} (h:Q .ret t V):dT P G n b Q .ret t V:=h
theorem lz {t e:TypeId} {m:Nat} {x i:Operand} {b:Pos} {off len n:Nat} {c:nj} {k:IntKind} (d:P.underlying t=some (.slice e)) (hj:(P.info? e).map (·.size)=some m) (hx:ev x=some (.slice b off len c)) (hi:ev i=some (.int k (.ofNat n))) (u:n<len):dq P G ev V (.indexAddr t x i)= .val (.ptr b (off+n*m)) V:=by
 cases hq:P.info? e with
 | none=>simp_all
 | some j=>
  rw[hq] at hj;cases hj;exact Lm d hq hx hi u
theorem ou {t:TypeId} {m:Nat} {x y:Operand} {b:Pos} {off:Nat} {v:Y} {cs cells:List Y} {e:Nat} (hx:ev x=some (.ptr b off)) (hy:ev y=some v) (hc:bZ v=some cs) (hb:V.m.get b=some (.row cells e false)) (hj:(P.info? t).map (·.size)=some m) (hl:cs.length=m) (hle:off+m<=cells.length) (aa:bJ cs=true):
  dq P G ev V (.store t x y)= .skip (V.setObj b (.row (dj cs cells off) e false)):=by
 cases hq:P.info? t with
 | none=>simp_all
 | some j=>
  grind [Lo]
end
end Go.Ev
namespace Go.Ev
variable [Env]
abbrev KP:=Nat->bU->Prop
def KP.le (K K':KP):Prop:=∀b o,K b o->K' b o
theorem KP.le_refl (K:KP):KP.le K K:=fun _ _ h=>h
theorem KP.le_trans {K K' K'':KP} (h:KP.le K K') (h':KP.le K' K''):KP.le K K'':=fun b o hb=>h' b o (h b o hb)
def KP.add (K:KP) (b:Nat) (o:bU):KP:=fun b' o'=>K b' o'∨(b'=b/\o'=o)
theorem KP.vA (K:KP) (b:Nat) (o:bU):KP.le K (K.add b o):=fun _ _ h=>.inl h
abbrev Own:=List (Nat×bU)
structure H (V:B) (K:KP) (L:Own):Prop where
 kept:∀b o,K b o->b<V.next/\V.m.get b=some o/\∀e∈L,e.1≠b
 own:∀e∈L,e.1<V.next/\V.m.get e.1=some e.2
 ne:L.Pairwise fun a b=>a.1≠b.1
section
variable {V:B} {K:KP} {L:Own}
theorem H.fX (h:H V K L) {b:Nat} {o:bU} (hk:K b o):V.m.get b=some o:=(h.kept b o hk).2.1
theorem H.get (h:H V K L) (k:Nat) {b:Nat} {o:bU} (hk:L[k]? =some (b,o)):V.m.get b=some o:=(h.own _<|gB_ hk).2
theorem H.alloc (h:H V K L) (o:bU):H (V.alloc o) K ((V.next,o)::L) where
 kept b o' hb:=by
  obtain⟨h1,d,h3⟩:=h.kept b o' hb;refine⟨Nat.lt_succ_of_lt h1,by rw[lH V o h1];exact d,fun e he=>?_⟩
  grind
 own e he:=by
  rcases mQ_.1 he with rfl | he
  ·exact⟨Nat.lt_succ_self _,w7 _ _⟩
  obtain⟨h1,d⟩:=h.own e he;exact⟨Nat.lt_succ_of_lt h1,by rw[lH V o h1];exact d⟩
 ne:=List.pairwise_cons.2 ⟨fun e he=>fun hh=>by have:=(h.own e he).1;omega,h.ne⟩
theorem H.pop {e:Nat×bU} (h:H V K (e::L)):H V K L where
 kept b o hb:=let ⟨h1,d,m⟩:=h.kept b o hb;⟨h1,d,fun e he=>m e (mC_ _ he)⟩
 own e he:=h.own e (mC_ _ he)
 ne:=(List.pairwise_cons.1 h.ne).2
theorem H.gw:∀{M:Own},H V K (M++L)->H V K L
 | [],h=>h
 | _::_,h=>H.gw h.pop
theorem H.perm {L':Own} (h:H V K L) (hp:L.Perm L'):H V K L' where
 kept b o hb:=let ⟨h1,m,u⟩:=h.kept b o hb;⟨h1,m,fun e he=>u e (hp.mem_iff.2 he)⟩
 own e he:=h.own e (hp.mem_iff.2 he)
 ne:=(hp.pairwise_iff (fun {a b} d=>fun e=>d e.symm)).1 h.ne
theorem H.w8 {b:Nat} {o:bU} (h:H V K ((b,o)::L)):H V (K.add b o) L where
 kept b' o' hb:=by
  rcases hb with hb | ⟨rfl,rfl⟩
  ·exact h.pop.kept b' o' hb
  exact⟨(h.own _<|mS_ ..).1,(h.own _<|mS_ ..).2,fun e he hh=>(List.pairwise_cons.1 h.ne).1 e he hh.symm⟩
 own:=h.pop.own
 ne:=h.pop.ne
theorem H.wz {b:Nat} {o:bU} (h:H V K ((b,o)::L)) (o':bU):H (V.setObj b o') K ((b,o')::L) where
 kept b' o'' hb:=by
  obtain⟨h1,d,h3⟩:=h.kept b' o'' hb;refine⟨h1,by grind [lI,mS_],fun e he=>?_⟩;rcases mQ_.1 he with rfl | he
  ·simp_all
  grind
 own e he:=by
  rcases mQ_.1 he with rfl | he
  ·exact⟨(h.own _<|mS_ ..).1,zi _ _ _⟩
  obtain⟨h1,d⟩:=h.own e (mC_ _ he);exact⟨h1,by rw[lI V o' (fun hh=>(List.pairwise_cons.1 h.ne).1 e he hh.symm)];exact d⟩
 ne:=List.pairwise_cons.2 ⟨(List.pairwise_cons.1 h.ne).1,(List.pairwise_cons.1 h.ne).2⟩
theorem H.MQ {b:Nat} {o:bU} {x:Nat×bU} (h:H V K (x::(b,o)::L)) (o':bU):H (V.setObj b o') K (x::(b,o')::L):=
 ((h.perm<|List.Perm.swap ..).wz o').perm (List.Perm.swap ..)
theorem Oe {α:Type} (x y z:α) (L:List α):(x::y::z::L).Perm (z::x::y::L):=
 (List.Perm.cons x<|List.Perm.swap z y L).trans (List.Perm.swap z x (y::L))
theorem H.zD {b:Nat} {o:bU} (h:H V K ((b,o)::L)) (o':bU):H ((V.drop b).alloc o') K ((V.next,o')::L):=by
 refine H.alloc (V:=V.drop b) ⟨fun b' o'' hb=>?_,fun e he=>?_,h.pop.ne⟩ o'
 ·obtain⟨h1,d,u⟩:=h.kept b' o'' hb;exact⟨h1,by rw[show(V.drop b).m.get b'=V.m.get b' from D.cK _ _ _ _ (fun e=>u _ (mS_ ..) e.symm)];exact d,fun e he=>u e (mC_ _ he)⟩
 obtain⟨h1,d⟩:=h.own e (mC_ _ he);exact⟨h1,by rw[show(V.drop b).m.get e.1=V.m.get e.1 from D.cK _ _ _ _ (fun hh=>(List.pairwise_cons.1 h.ne).1 e he hh.symm)];exact d⟩
theorem H.named (h:H V K L):∃L',H V K L'/\L=L':=⟨L,h,Z⟩
theorem H.ext {V':B} (h:H V K L) (he:Ext V V'):H V' K L where
 kept b o hb:=let ⟨h1,d,m⟩:=h.kept b o hb;⟨Nat.lt_of_lt_of_le h1 he.1,he.2 b o h1 d,m⟩
 own e hm:=let ⟨h1,d⟩:=h.own e hm;⟨Nat.lt_of_lt_of_le h1 he.1,he.2 _ _ h1 d⟩
 ne:=h.ne
end
def cX (K:KP) (p:Y) (vs:List Y):Prop:=
 ∃(b off:Nat) (cells:List Y) (e:Nat) (ro:Bool),p= .ptr b off/\K b (.row cells e ro)/\off+vs.length<=cells.length/\(cells.drop off).take vs.length=vs
theorem cX.mono {K K':KP} (hk:KP.le K K') {p:Y} {vs:List Y} (h:cX K p vs):cX K' p vs:=
 let ⟨b,off,cells,e,ro,h1,d,m,h4⟩:=h;⟨b,off,cells,e,ro,h1,hk _ _ d,m,h4⟩
def D6 (m len:Nat) (c:nj):Prop:=c= .upto m∨∃n,c= .known n/\len<=n
def bI {α:Type} (K:KP) (m:Nat) (R:α->List Y->Prop) (l:List α) (v:Y):Prop:=
 (l= []/\v= .aB)∨∃(b off:Nat) (c:nj) (cells:List Y) (e:Nat) (ro:Bool),v= .slice b off l.length c/\D6 m l.length c/\K b (.row cells e ro)/\off+l.length*m<=cells.length/\l.length<=9223372036854775807/\
  ∀(i:Nat) (x:α),l[i]? =some x->R x ((cells.drop (off+i*m)).take m)
theorem bI.mono {α:Type} {K K':KP} {m:Nat} {R R':α->List Y->Prop} {l:List α} {v:Y} (h:bI K m R l v) (hk:KP.le K K') (d:∀x vs,R x vs->R' x vs):bI K' m R' l v:=by
 rcases h with h | ⟨b,off,c,cells,e,ro,h1,u,A,h4,h5⟩
 ·exact .inl h
 exact .inr ⟨b,off,c,cells,e,ro,h1,u,hk _ _ A,h4,h5.1,fun i x hx=>d x _ (h5.2 i x hx)⟩
theorem bI.bM {α:Type} {K:KP} {m:Nat} {R:α->List Y->Prop} {l:List α} {v:Y} (h:bI K m R l v):l.length<=9223372036854775807:=by
 rcases h with ⟨rfl,_⟩ | ⟨b,off,c,cells,e,ro,h1,h2,h3,h4,h5,_⟩
 ·exact Nat.zero_le _
 exact h5
theorem bI.leaf {α:Type} {K:KP} {m:Nat} {R:α->List Y->Prop} {l:List α} {v:Y} (h:bI K m R l v):bZ v=some [v]/\gn v=true:=by
 rcases h with ⟨_,rfl⟩ | ⟨b,off,c,cells,e,ro,rfl,_⟩<;>exact⟨rfl,rfl⟩
theorem bI.vC {α:Type} {K:KP} {m:Nat} {R:α->List Y->Prop} {l:List α} {v:Y} (h:bI K m R l v) {P:Program} {t e:TypeId} (hu:P.underlying t=some (.slice e)):Go.Ev.vC P t v=some l.length:=by
 rcases h with ⟨rfl,rfl⟩ | ⟨b,off,c,cells,e,ro,rfl,_⟩
 ·simp only[Go.Ev.vC,hu];rfl
 simp only[Go.Ev.vC,hu]
theorem bI.at {α:Type} {K:KP} {m:Nat} {R:α->List Y->Prop} {l:List α} {v:Y} (h:bI K m R l v) {i:Nat} {x:α} (hi:l[i]? =some x):
  ∃(b off:Nat) (c:nj) (vs:List Y),v= .slice b off l.length c/\i<l.length/\cX K (.ptr b (off+i*m)) vs/\vs.length=m/\R x vs:=by
 have d:i<l.length:=(gA.1 hi).1;rcases h with ⟨rfl,_⟩ | ⟨b,off,c,cells,e,ro,rfl,h2,A,h4,h5⟩
 ·simp_all
 have hle:(i+1)*m<=l.length*m:=nM_ _ d;rw[Nat.succ_mul] at hle;have u:((cells.drop (off+i*m)).take m).length=m:=by grind
 refine⟨b,off,c,_,Z,d,⟨b,off+i*m,cells,e,ro,Z,A,by rw[u];omega,by rw[u]⟩,u,h5.2 i x hi⟩
section
variable {P:Program} {G:Cx} {ev:Operand->Option Y} {V:B} {K:KP} {L:Own}
theorem aO {α:Type} {m:Nat} {R:α->List Y->Prop} {l:List α} {c:Call} {t e:TypeId} {x:Operand} {v:Y} (u:bI K m R l v) (b:c.callee= .builtin .len) (d:c.argTypes[0]? =some t) (A:c.args.toList= [x]) (hu:P.underlying t=some (.slice e)) (hx:ev x=some v):dq P G ev V (.call c)= .val (.int .i64 (.ofNat l.length)) V:=by
 refine bK (by simp[kindOf,b,isMap,d,hu]) ?_;simp only[cS,b,d,A,hx,u.vC hu,Option.map_some]
theorem Cj {c:Call} {t:TypeId} {x:Operand} {s:List Nat} (b:c.callee= .builtin .len) (d:c.argTypes[0]? =some t) (m:c.args.toList= [x]) (hu:P.underlying t=some .string) (hx:ev x=some (.str s)):dq P G ev V (.call c)= .val (.int .i64 (.ofNat<|cW s)) V:=by
 refine bK (by simp[kindOf,b,isMap,d,hu]) ?_;simp only[cS,b,d,m,hx,vC,hu,Option.map_some]
theorem aM {t:TypeId} {x:Operand} {p v:Y} {vs:List Y} (d:H V K L) (hp:cX K p vs) (hx:ev x=some p) (m:du P t=some none) (hv:vs[0]? =some v):dq P G ev V (.load t x)= .val v V:=by
 obtain⟨b,off,cells,e,ro,rfl,u,h3,h4⟩:=hp;refine aw hx (d.fX u) m ?_
 grind [eQ]
theorem Jy {t:TypeId} {x:Operand} {p:Y} {vs:List Y} {n:Nat} (d:H V K L) (hp:cX K p vs) (hx:ev x=some p) (m:du P t=some (some n)) (hv:n<=vs.length):dq P G ev V (.load t x)= .val (.agg<|vs.take n) V:=by
 obtain⟨b,off,cells,e,ro,rfl,u,h3,h4⟩:=hp;refine bA hx (d.fX u) m oM ?_
 grind
end
section
variable {P:Program} {G:Cx} {n:Nat} {t:D Y} {V:B} {K:KP} {L:Own} {Q:Ex->D Y->B->Prop} {ops:Array Oper} {o:Oper} {l:List Oper}
theorem bg {c:Bool} {t':Bool->D Y} (hw:bu ops t o=some true) (hv:dq P G (aY G t) V o.op= .val (.bool c) V) (hp:∀b,dc t n o.dst (.bool b)=some (t' b))
  (h1:c=true->bG P G ops n l (t' true) V Q) (h0:c=false->bG P G ops n l (t' false) V Q):bG P G ops n (o::l) t V Q:=by
 refine S hw hv (hp c) ?_;cases c with
 | true=>exact h1 Z
 | false=>exact h0 Z
theorem bH (d:H V K L) {ob:bU} {t':Nat->D Y} (hw:bu ops t o=some true) (hv:dq P G (aY G t) V o.op= .val (.ptr V.next 0) (V.alloc ob)) (hp:∀b,dc t n o.dst (.ptr b 0)=some (t' b))
  (h:∀(V':B) (b:Nat),H V' K ((b,ob)::L)->bG P G ops n l (t' b) V' Q):bG P G ops n (o::l) t V Q:=
 S hw hv (hp _) (h _ _<|d.alloc ob)
theorem jY (d:H V K L) {ob:bU} {k c:Nat} {t':Nat->D Y} (hw:bu ops t o=some true) (hv:dq P G (aY G t) V o.op= .val (.slice V.next 0 k (.known c)) (V.alloc ob)) (hp:∀b,dc t n o.dst (.slice b 0 k (.known c))=some (t' b))
  (h:∀(V':B) (b:Nat),H V' K ((b,ob)::L)->bG P G ops n l (t' b) V' Q):bG P G ops n (o::l) t V Q:=
 S hw hv (hp _) (h _ _<|d.alloc ob)
theorem db {b:Nat} {ob ob':bU} {t':D Y} (d:H V K ((b,ob)::L)) (hw:bu ops t o=some true) (hv:dq P G (aY G t) V o.op= .skip (V.setObj b ob')) (hp:dc t n o.dst unit=some t')
  (h:∀V',H V' K ((b,ob')::L)->bG P G ops n l t' V' Q):bG P G ops n (o::l) t V Q:=mC hw hv hp (h _<|d.wz ob')
theorem bO {α:Type} {m:Nat} {R:α->List Y->Prop} {la:List α} {v:Y} {i:Nat} {x:α} {ty e:TypeId} {xo io:Operand} {k:IntKind} {t':Y->D Y} (A:bI K m R la v) (hi:la[i]? =some x) (hw:bu ops t o=some true) (C:o.op= .indexAddr ty xo io)
  (E:P.underlying ty=some (.slice e)) (hj:(P.info? e).map (·.size)=some m) (hx:aY G t xo=some v) (d:aY G t io=some (.int k (.ofNat i))) (hp:∀p,dc t n o.dst p=some (t' p))
  (h:∀p vs,cX K p vs->vs.length=m->R x vs->bG P G ops n l (t' p) V Q):bG P G ops n (o::l) t V Q:=by
 obtain⟨b,off,c,vs,rfl,u,h1,F,I⟩:=A.at hi;refine S hw ?_ (hp _)<|h _ vs h1 F I;rw[C];exact lz E hj hx d u
theorem eB {p:Y} {vs:List Y} {s:TypeId} {xo:Operand} {i k:Nat} {t':Y->D Y} (d:cX K p vs) (hw:bu ops t o=some true) (m:o.op= .fieldAddr s xo i) (hx:aY G t xo=some p) (hk:lZ P s i=some k) (hl:k<=vs.length) (hp:∀p,dc t n o.dst p=some (t' p))
  (h:∀p',cX K p' (vs.drop k)->bG P G ops n l (t' p') V Q):bG P G ops n (o::l) t V Q:=by
 obtain⟨b,off,cells,e,ro,rfl,u,h3,h4⟩:=d;refine S hw ?_ (hp _)<|h _ ⟨b,off+k,cells,e,ro,Z,u,by grind,?_⟩
 ·rw[m];exact ax hx hk
 grind [List.drop_take,List.drop_drop]
theorem dJ {f:Nat} {args:List Y} {t':Y->D Y} {R:Y->B->Prop} (hw:bu ops t o=some true) (hv:dq P G (aY G t) V o.op= .enter f args V) (hp:∀v,dc t n o.dst v=some (t' v))
  (b:aT P G f args V R) (h:∀v V',R v V'->bG P G ops n l (t' v) V' Q):bG P G ops n (o::l) t V Q:=
 C2 hw hv (b.mono fun v V' d=>⟨_,hp v,h v V' d⟩)
theorem aC {x:Operand} {a b:Code} {c:Bool} (d:aY G t x=some (.bool c)) (h1:c=true->Ev P G a n t V Q) (h0:c=false->Ev P G b n t V Q):Ev P G (.cond x a b) n t V Q:=by
 refine zf d ?_
 grind
end
theorem aS:bJ []=true:=rfl
theorem ar {v:Y} {vs:List Y} (h:gn v=true) (hs:bJ vs=true):bJ (v::vs)=true:=by
 grind [bJ]
section
variable {P:Program} {G:Cx} {ev:Operand->Option Y} {V:B} {K:KP} {L:Own}
theorem bz {t:TypeId} {m:Nat} {x y:Operand} {b:Pos} {off:Nat} {v:Y} {cs cells cells':List Y} {e:Nat} (hx:ev x=some (.ptr b off)) (hy:ev y=some v) (u:bZ v=some cs) (hb:V.m.get b=some (.row cells e false)) (hj:(P.info? t).map (·.size)=some m) (hl:cs.length=m) (hle:off+m<=cells.length) (d:bJ cs=true) (A:dj cs cells off=cells'):
  dq P G ev V (.store t x y)= .skip (V.setObj b (.row cells' e false)):=by
 subst A;exact ou hx hy u hb hj hl hle d
theorem bC {t:TypeId} {x:Operand} {p:Y} {vs:List Y} {n:Nat} (hs:H V K L) (hp:cX K p vs) (hx:ev x=some p) (ha:du P t=some (some n)) (hv:vs.length=n):dq P G ev V (.load t x)= .val (.agg vs) V:=by
 grind [Jy,List.take_length]
def placesOf (P:Program) (t:TypeId):Option (List (Nat×Nat)):=(structOf P t).bind fun fs=>bY (fun f:Field=>(P.info? f.type).map fun j=>(f.offset,j.size)) fs.toList
theorem cj {place:Nat->Option (Nat×Nat)} {cells:List Y}:iM place ev [] cells=some cells:=rfl
theorem bB {place:Nat->Option (Nat×Nat)} {i:Nat} {x:Operand} {l:List (Nat×Operand)} {cells:List Y} {off size:Nat} {v:Y} {vs:List Y} {r:Option (List Y)} (hp:place i=some (off,size)) (hx:ev x=some v) (hc:bZ v=some vs) (hl:(Nat.beq (cW vs) size && Nat.ble (off+size) (cW cells))=true) (h:iM place ev l (dj vs cells off)=r):iM place ev ((i,x)::l) cells=r:=by
 grind [iM]
theorem dW {t:TypeId} {parts:Array (Nat×Operand)} {places:List (Nat×Nat)} {zero cs:List Y} (hp:placesOf P t=some places) (hz:(ew P t).bind bZ=some zero) (hu:du P t=some (some zero.length)) (hf:iM (nth places) ev parts.toList zero=some cs) (b:(structOf P t).isSome=true):dq P G ev V (.build t parts)= .val (.agg cs) V:=by
 refine bK Z ?_;unfold placesOf structOf at hp;unfold structOf at b;rw[mm] at hp b;simp only[cS,hz]
 grind
theorem Jr {s d:TypeId} {x:Operand} {j k:IntKind} {n:Int} (hk:kindOf P (.convert s d x)= .pure) (b:P.underlying s=some (.int j)) (hd:P.underlying d=some (.int k)) (hx:ev x=some (.int j n)):dq P G ev V (.convert s d x)= .val (.int k<|wr k n) V:=by
 refine bK hk ?_;simp only[cS,b,hd,hx]
end
section
variable {P:Program} {G:Cx} {n:Nat} {t:D Y} {V:B} {K:KP} {L:Own} {Q:Ex->D Y->B->Prop} {ops:Array Oper} {o:Oper} {l:List Oper}
theorem bh {f:Nat} {args:List Y} {u:Y} {t':Y->D Y} (hw:bu ops t o=some true) (hv:dq P G (aY G t) V o.op= .enter f args V) (hp:∀v,dc t n o.dst v=some (t' v))
  (b:aT P G f args V fun v V'=>v=u/\H V' K L) (h:∀V',H V' K L->bG P G ops n l (t' u) V' Q):bG P G ops n (o::l) t V Q:=
 dJ hw hv hp b fun v V' ⟨hv,aq⟩=>by simp_all
theorem bn {x:Operand} {a b:Code} (d:aY G t x=some (.bool true)) (h:Ev P G a n t V Q):Ev P G (.cond x a b) n t V Q:=zf d h
theorem bf {x:Operand} {a b:Code} (d:aY G t x=some (.bool false)) (h:Ev P G b n t V Q):Ev P G (.cond x a b) n t V Q:=zf d h
theorem ad {b:Code} (h:Ev P G b n t V Q):dT P G n b Q .normal t V:=h
theorem aH {id:Nat} (h:Q .normal t V):jG id Q .normal t V:=h
theorem aK {id:Nat} (h:Q .ret t V):jG id Q .ret t V:=h
def vH (I:Nat->D Y->B->Prop) (j:Nat) (Q:Ex->D Y->B->Prop) (e:Ex) (t:D Y) (V:B):Prop:=
 match e with
 | .normal=>∃i,i<j/\I i t V
 | e=>Q e t V
theorem aL {I:Nat->D Y->B->Prop} {j:Nat} (h:∃i,i<j/\I i t V):vH I j Q .normal t V:=h
theorem aQ {I:Nat->D Y->B->Prop} {j i:Nat} (h:Q (.exit i) t V):vH I j Q (.exit i) t V:=h
theorem bp {I:Nat->D Y->B->Prop} {j:Nat} (h:Q .ret t V):vH I j Q .ret t V:=h
theorem HF {b:Code} (I:Nat->D Y->B->Prop) (j:Nat) (d:I j t V) (step:∀j t V,I j t V->Ev P G b n t V (vH I j Q)):Ev P G (.loop b) n t V Q:=
 J3 I (fun j t V h=>(step j t V h).mono fun e t' V' hq=>by cases e<;>exact hq) j t V d
end
def HY:Nat:=1000
def F5 (f:Nat):Bool:=Nat.beq f 5
def PX:Nat:=50
def PY:Nat:=54
def PZ:Nat:=94
def Gs (f:Nat):Bool:=Nat.beq f PX || Nat.beq f PY || Nat.beq f PZ
structure Plain (G:Cx):Prop where
 h1:∀f a s,Gs f=false->G.w9 f a s=none
 h2:∀f a,F5 f=false->G.Jg f a=none
 h3:G.mem= []
 h4:∀f a s,G.stop f a s=none
 h5:∀f,Nat.beq f HY=false->G.fk f=false
theorem HG {P:Program} {G:Cx} (b:Plain G) {f:Nat} {fn:Func} {c:Code} {args:List Y} {V:B} {R:Y->B->Prop} {t:D Y} (hf:P.funcs[f]? =some fn) (hb:fn.body=some c) (d:pL fn.ntmps args=some t)
  (h:Ev P G c fn.ntmps t V fun e t' V'=>(e= .normal∨e= .ret)/\∃v,dB P fn t' V'=some v/\R v V') (hk:Nat.beq f HY=false:=by rfl) (hl:F5 f=false:=by rfl) (m:Gs f=false:=by rfl):aT P G f args V R:=
 Ek (b.h1 _ _ _ m) (b.h2 _ _ hl) (b.h4 _ _ _) (b.h5 _ hk) hf hb d h
def FH (P:Program) (fn:Func) (R:Y->B->Prop) (e:Ex) (t:D Y) (V:B):Prop:=(e= .normal∨e= .ret)/\∃v,dB P fn t V=some v/\R v V
theorem aW {P:Program} {G:Cx} (b:Plain G) {f:Nat} {fn:Func} {c:Code} {args:List Y} {V:B} {R:Y->B->Prop} {t:D Y} (hf:P.funcs[f]? =some fn) (hb:fn.body=some c) (d:pL fn.ntmps args=some t)
  (h:Ev P G c fn.ntmps t V (FH P fn R)) (hk:Nat.beq f HY=false:=by rfl) (hl:F5 f=false:=by rfl) (m:Gs f=false:=by rfl):aT P G f args V R:=HG b hf hb d h hk hl m
theorem tG {P:Program} {fn:Func} {k:Nat} {t:D Y} {V:B} {v:Y} (b:fn.results.toList= [.tmp k]) (h:t.get k=some v):dB P fn t V=some v:=by
 unfold dB;rw[b]
 have:bY (eJ P t V) [.tmp k]=some [v]:=by
  have h':eJ P t V (.tmp k)=some v:=h;unfold bY;simp only[h']
 rw[this]
theorem jB {P:Program} {fn:Func} {j k:Nat} {t:D Y} {V:B} {u v:Y} (m:fn.results.toList= [.tmp j,.tmp k]) (h1:t.get j=some u) (A:t.get k=some v):dB P fn t V=some (.tuple [u,v]):=by
 unfold dB;rw[m]
 have:bY (eJ P t V) [.tmp j,.tmp k]=some [u,v]:=by
  have b:eJ P t V (.tmp j)=some u:=h1;have d:eJ P t V (.tmp k)=some v:=A;unfold bY;simp only[b,d]
 rw[this]
theorem ay {P:Program} {fn:Func} {R:Y->B->Prop} {t:D Y} {V:B} {k:Nat} {v:Y} (b:fn.results.toList= [.tmp k]) (h:t.get k=some v) (d:R v V):FH P fn R .ret t V:=⟨.inr Z,v,tG b h,d⟩
theorem uR {P:Program} {fn:Func} {R:Y->B->Prop} {t:D Y} {V:B} {j k:Nat} {u v:Y} (b:fn.results.toList= [.tmp j,.tmp k]) (h1:t.get j=some u) (d:t.get k=some v) (m:R (.tuple [u,v]) V):FH P fn R .ret t V:=⟨.inr Z,_,jB b h1 d,m⟩
end Go.Ev
namespace Go.Ev
theorem iS.eta {α:Type} (t:iS α):t=⟨(iD 0).run t,(iD 1).run t,(iD 2).run t,(iD 3).run t,(iD 4).run t,(iD 5).run t,(iD 6).run t,(iD 7).run t,(iD 8).run t,(iD 9).run t,(iD 10).run t,(iD 11).run t,(iD 12).run t,(iD 13).run t,(iD 14).run t,(iD 15).run t⟩:=by cases t;rfl
theorem iS.same {α:Type} {t t':iS α} (h:∀n,n<16->(iD n).run t=(iD n).run t'):t=t':=by
 rw[iS.eta t,h 0 (by decide),h 1 (by decide),h 2 (by decide),h 3 (by decide),h 4 (by decide),h 5 (by decide),h 6 (by decide),h 7 (by decide),h 8 (by decide),h 9 (by decide),h 10 (by decide),h 11 (by decide),h 12 (by decide),h 13 (by decide),h 14 (by decide),h 15 (by decide),<-iS.eta t']
theorem gY.same {α:Type} {t t':gY α} (h:∀k,k<256->iL t k=iL t' k):t=t':=by
 refine iS.same fun n hn=>iS.same fun m hm=>?_
 have:=h (n*16+m) oM;unfold iL at this;have e1:Nat.div (n*16+m) 16=n:=by show(n*16+m)/16=n;omega
 have e2:Nat.mod (n*16+m) 16=m:=by show(n*16+m)%16=m;omega
 simp_all
variable [Env]
def a8 (W:List Nat) (t t':D Y):Prop:=t'.m=t.m/\t'.l=t.l/\∀k,k<256->W.elem k=false->iL t'.s k=iL t.s k
theorem a8.refl (W:List Nat) (t:D Y):a8 W t t:=⟨Z,Z,fun _ _ _=>Z⟩
theorem a8.put {W:List Nat} {t t':D Y} {w:Nat} {o:Option Y} (hw:(W.elem w && Nat.blt w 256)=true) (h:a8 W t t'):a8 W t (t'.put o w):=by
 obtain⟨h1,b,d⟩:=h;rw[bA_,uc] at hw;obtain⟨s,m,l⟩:=t';rw[D.rH _ _ _ _ hw.2];refine⟨h1,b,fun k hk u=>?_⟩;show iL (nX s w o) k=_;rw[kr _ _ _ _ hw.2 hk,if_neg (fun e=>by simp_all)];exact d k hk u
theorem a8.eb {W:List Nat} {t t':D Y} {w:Nat} (hw:Nat.blt w 256=true) (h:a8 (w::W) t t'):∃o,a8 W (t.put o w) t':=by
 rw[uc] at hw;obtain⟨h1,b,h3⟩:=h;refine⟨t'.get w,?_⟩;obtain⟨s,m,l⟩:=t;rw[D.rH _ _ _ _ hw,D.nJ _ hw];refine⟨h1,b,fun k hk hn=>?_⟩
 grind [kr]
theorem a8.r4 {W:List Nat} {t t':D Y} {a b c d:Nat} (hw:(Nat.blt a 256 && (Nat.blt b 256 && (Nat.blt c 256 && Nat.blt d 256)))=true) (h:a8 (a::b::c::d::W) t t'):∃m u A C,a8 W ((((t.put m a).put u b).put A c).put C d) t':=by
 simp only[bA_] at hw;obtain⟨h1,E,F,h4⟩:=hw;obtain⟨m,h⟩:=h.eb h1;obtain⟨u,h⟩:=h.eb E;obtain⟨A,h⟩:=h.eb F;obtain⟨C,h⟩:=h.eb h4
 grind
theorem a8.bR {W:List Nat} {t t':D Y} {a b c d e f g i:Nat} (hw:(Nat.blt a 256 && (Nat.blt b 256 && (Nat.blt c 256 && Nat.blt d 256)))=true) (m:(Nat.blt e 256 && (Nat.blt f 256 && (Nat.blt g 256 && Nat.blt i 256)))=true) (h:a8 (a::b::c::d::e::f::g::i::W) t t'):
  ∃u A C E F I K L,a8 W ((((((((t.put u a).put A b).put C c).put E d).put F e).put I f).put K g).put L i) t':=by
 obtain⟨u,A,C,E,h⟩:=h.r4 hw;obtain⟨F,I,K,L,h⟩:=h.r4 m
 grind
theorem a8.nil {t t':D Y} (h:a8 [] t t'):t'=t:=by
 obtain⟨s,m,l⟩:=t;obtain⟨s',m',l'⟩:=t';obtain⟨h1,h2,b⟩:=h;have:s'=s:=gY.same fun k hk=>b k hk Z
 simp_all
section
variable {P:Program} {G:Cx} {n:Nat} {t:D Y} {V:B} {Q:Ex->D Y->B->Prop}
theorem ba {b:Code} (W:List Nat) (I:Nat->D Y->B->Prop) (j:Nat) (d:I j t V) (step:∀j t' V,a8 W t t'->I j t' V->Ev P G b n t' V (vH (fun j t'' V=>a8 W t t''/\I j t'' V) j Q)):Ev P G (.loop b) n t V Q:=
 HF (fun j t'' V=>a8 W t t''/\I j t'' V) j ⟨a8.refl _ _,d⟩ fun j t' V h=>step j t' V h.1 h.2
end
theorem iw {a b:Nat}:da (.ofNat a) (.ofNat b)=decide (a<b):=by
 show Nat.ble (Nat.succ a) b=_;rw[Bool.eq_iff_iff,nE_,decide_eq_true_iff];rfl
theorem ft {a b:Nat}:bD (.ofNat a) (.ofNat b)=decide (a=b):=by
 show Nat.beq a b=_;rw[Bool.eq_iff_iff,Nat.beq_eq,decide_eq_true_iff]
theorem aZ {i:Nat} (h:i<9223372036854775807):wr .i64 (Int.add (.ofNat i) (.ofNat 1))= .ofNat (i+1):=by
 show(bif Nat.ble (i+1) 9223372036854775807 then _ else _)=_
 grind [nE_]
end Go.Ev
namespace Go.Ev
variable [Env]
section
variable {P:Program} {G:Cx} {n:Nat} {t:D Y} {V:B} {K:KP} {L:Own} {Q:Ex->D Y->B->Prop} {ops:Array Oper} {o:Oper} {i:Nat} {rc:List Nat} {l:List (Nat×List Nat)}
theorem nF {v:Y} {t':D Y} {V':B} (hi:ops[i]? =some o) (hw:bu ops t o=some true) (hv:dq P G (aY G t) V o.op= .val v V') (hp:dc t n o.dst v=some t') (h:cY P G ops t' V' rc=true/\cu P G ops n l t' V' Q):cu P G ops n ((i,rc)::l) t V Q:=by
 obtain⟨hs,K,e,b,m,h1,u⟩:=h;refine⟨K,e,b,m,fun d k hk=>?_,u⟩
 show(match ops[i]? with
  | some o=>gq P G (dF P G k) false ops n o t V (fun t' V'=>bif cY P G ops t' V' rc then iQ P G (dF P G k) ops n d l t' V' else .err 86)
  | none=>.err 87)=_
 grind [gq,jH]
theorem re {t':D Y} {V':B} (hi:ops[i]? =some o) (hw:bu ops t o=some true) (hv:dq P G (aY G t) V o.op= .skip V') (hp:dc t n o.dst unit=some t') (h:cY P G ops t' V' rc=true/\cu P G ops n l t' V' Q):cu P G ops n ((i,rc)::l) t V Q:=by
 obtain⟨hs,K,e,b,m,h1,u⟩:=h;refine⟨K,e,b,m,fun d k hk=>?_,u⟩
 show(match ops[i]? with
  | some o=>gq P G (dF P G k) false ops n o t V (fun t' V'=>bif cY P G ops t' V' rc then iQ P G (dF P G k) ops n d l t' V' else .err 86)
  | none=>.err 87)=_
 grind [gq,jH]
theorem bq:cY P G ops t V []=true:=rfl
theorem aV {j:Nat} {l:List Nat} (h:jd P G ops t V j=true) (hl:cY P G ops t V l=true):cY P G ops t V (j::l)=true:=by
 grind [cY]
theorem a7 {k:Nat} {v:Y} (hi:ops[i]? =some o) (hw:bu ops t o=some true) (hd:o.dst=some k) (hg:t.get k=some v) (hk:kindOf P o.op= .read) (h:dq P G (aY G t) V o.op= .val v V) (hb:dH v v=true):jd P G ops t V i=true:=by
 have hr:eE P (aY G t) V o.op=some v:=by
  grind [dq]
 unfold jd
 simp_all
theorem yf {k b e:Nat} {cs:List Y} (hi:ops[i]? =some o) (hw:bu ops t o=some true) (hd:o.dst=some k) (hg:t.get k=some (.ptr b 0)) (hk:kindOf P o.op= .alloc) (ha:eF P (aY G t) o.op=some (.row cs e false,.ptr)) (hm:V.m.get b=some (.row cs e false)) (hb:dH.beqL cs cs=true):jd P G ops t V i=true:=by
 unfold jd
 simp_all
theorem gj (k:IntKind) (n:Int):dH.na (.int k n) (.int k n)=true:=by
 show(rZ k k && bD n n)=true;rw[cR];cases k<;>simp[rZ]
theorem Hc (s:List Nat):dH.na (.str s) (.str s)=true:=by
 show w6 s s=true;rw[qC];simp
theorem bI.na {α:Type} {K:KP} {m:Nat} {R:α->List Y->Prop} {l:List α} {v:Y} (h:bI K m R l v):dH.na v v=true:=by
 rcases h with ⟨_,rfl⟩ | ⟨b,off,c,cells,e,ro,rfl,u,_⟩
 ·rfl
 show(dH.beqP b b && Nat.beq off off && Nat.beq l.length l.length && dH.beqC c c)=true;have hp:dH.beqP b b=true:=Nat.beq_refl b
 have d:dH.beqC c c=true:=by
  rcases u with rfl | ⟨n,rfl,_⟩
  ·exact Nat.beq_refl m
  exact Nat.beq_refl n
 simp[hp,d]
theorem nq:dH.beqL [] []=true:=rfl
theorem dM {v:Y} {vs:List Y} (h:dH.na v v=true) (hs:dH.beqL vs vs=true):dH.beqL (v::vs) (v::vs)=true:=by
 grind [dH.beqL]
theorem qW {vs:List Y} (h:dH.beqL vs vs=true):dH (.agg vs) (.agg vs)=true:=h
theorem oU {c:Bool} {t':Bool->D Y} (d:ops[i]? =some o) (hw:bu ops t o=some true) (hv:dq P G (aY G t) V o.op= .val (.bool c) V) (hp:∀b,dc t n o.dst (.bool b)=some (t' b))
  (h1:c=true->cu P G ops n l (t' true) V Q) (h0:c=false->cu P G ops n l (t' false) V Q):cu P G ops n ((i,[])::l) t V Q:=by
 refine al d hw hv (hp c) ?_;cases c with
 | true=>exact h1 Z
 | false=>exact h0 Z
theorem LP (m:H V K L) {ob:bU} {t':Nat->D Y} (d:ops[i]? =some o) (hw:bu ops t o=some true) (hv:dq P G (aY G t) V o.op= .val (.ptr V.next 0) (V.alloc ob)) (hp:∀b,dc t n o.dst (.ptr b 0)=some (t' b))
  (h:∀(V':B) (b:Nat),H V' K ((b,ob)::L)->cu P G ops n l (t' b) V' Q):cu P G ops n ((i,[])::l) t V Q:=
 al d hw hv (hp _) (h _ _<|m.alloc ob)
theorem tT (m:H V K L) {ob:bU} {k c:Nat} {t':Nat->D Y} (d:ops[i]? =some o) (hw:bu ops t o=some true) (hv:dq P G (aY G t) V o.op= .val (.slice V.next 0 k (.known c)) (V.alloc ob)) (hp:∀b,dc t n o.dst (.slice b 0 k (.known c))=some (t' b))
  (h:∀(V':B) (b:Nat),H V' K ((b,ob)::L)->cu P G ops n l (t' b) V' Q):cu P G ops n ((i,[])::l) t V Q:=
 al d hw hv (hp _) (h _ _<|m.alloc ob)
theorem vW {b:Nat} {ob ob':bU} {t':D Y} (m:H V K ((b,ob)::L)) (d:ops[i]? =some o) (hw:bu ops t o=some true) (hv:dq P G (aY G t) V o.op= .skip (V.setObj b ob')) (hp:dc t n o.dst unit=some t')
  (h:∀V',H V' K ((b,ob')::L)->(cY P G ops t' V' rc=true/\cu P G ops n l t' V' Q)):cu P G ops n ((i,rc)::l) t V Q:=re d hw hv hp (h _<|m.wz ob')
theorem cP {α:Type} {m:Nat} {R:α->List Y->Prop} {la:List α} {v:Y} {ix:Nat} {x:α} {ty e:TypeId} {xo io:Operand} {k:IntKind} {t':Y->D Y} (C:bI K m R la v) (hi:la[ix]? =some x) (d:ops[i]? =some o) (hw:bu ops t o=some true) (E:o.op= .indexAddr ty xo io)
  (F:P.underlying ty=some (.slice e)) (hj:(P.info? e).map (·.size)=some m) (hx:aY G t xo=some v) (u:aY G t io=some (.int k (.ofNat ix))) (hp:∀p,dc t n o.dst p=some (t' p))
  (h:∀p vs,cX K p vs->vs.length=m->R x vs->cu P G ops n l (t' p) V Q):cu P G ops n ((i,[])::l) t V Q:=by
 obtain⟨b,off,c,vs,rfl,A,h1,I,M⟩:=C.at hi;refine al d hw ?_ (hp _)<|h _ vs h1 I M;rw[E];exact lz F hj hx u A
theorem mg {p:Y} {vs:List Y} {s:TypeId} {xo:Operand} {fi k:Nat} {t':Y->D Y} (d:cX K p vs) (m:ops[i]? =some o) (hw:bu ops t o=some true) (u:o.op= .fieldAddr s xo fi) (hx:aY G t xo=some p) (hk:lZ P s fi=some k) (hl:k<=vs.length) (hp:∀p,dc t n o.dst p=some (t' p))
  (h:∀p',cX K p' (vs.drop k)->cu P G ops n l (t' p') V Q):cu P G ops n ((i,[])::l) t V Q:=by
 obtain⟨b,off,cells,e,ro,rfl,A,h3,h4⟩:=d;refine al m hw ?_ (hp _)<|h _ ⟨b,off+k,cells,e,ro,Z,A,by grind,?_⟩
 ·rw[u];exact ax hx hk
 grind [List.drop_take,List.drop_drop]
theorem fl {f:Nat} {args:List Y} {t':Y->D Y} {R:Y->B->Prop} (b:ops[i]? =some o) (hw:bu ops t o=some true) (hv:dq P G (aY G t) V o.op= .enter f args V) (hp:∀v,dc t n o.dst v=some (t' v))
  (d:aT P G f args V R) (h:∀v V',R v V'->(cY P G ops (t' v) V' rc=true/\cu P G ops n l (t' v) V' Q)):cu P G ops n ((i,rc)::l) t V Q:=by
 refine AJ b hw hv<|d.mono fun v V' hr=>?_
 simp_all
theorem fe {f:Nat} {args:List Y} {u:Y} {t':Y->D Y} (b:ops[i]? =some o) (hw:bu ops t o=some true) (hv:dq P G (aY G t) V o.op= .enter f args V) (hp:∀v,dc t n o.dst v=some (t' v))
  (d:aT P G f args V fun v V'=>v=u/\H V' K L) (h:∀V',H V' K L->(cY P G ops (t' u) V' rc=true/\cu P G ops n l (t' u) V' Q)):cu P G ops n ((i,rc)::l) t V Q:=
 fl b hw hv hp d fun v V' ⟨hv,aq⟩=>by simp_all
theorem aX {id:Nat} {l:List (Nat×List Nat)} (hf:sn P ops=true) (hl:jz P ops=l) (h:cu P G ops n l t V Q):Ev P G (.region id ops true) n t V Q:=by
 subst hl;exact uV hf h
end
end Go.Ev
namespace Go.Ev
variable [Env]
section
variable {P:Program} {G:Cx} {n:Nat} {t:D Y} {V:B} {Q:Ex->D Y->B->Prop} {ops:Array Oper} {o:Oper} {l:List Oper}
end
section
variable {P:Program} {G:Cx} {n:Nat} {V:B} {Q:Ex->D Y->B->Prop} {ops:Array Oper}
def DB (n:Nat) (t:D Y) (d:Option Nat) (v:Option Y):Option (D Y):=match v with | some v=>dc t n d v | none=>none
def He (P:Program) (k:Bool) (o:BinOp) (ty:TypeId) (a b:Option Y):Option Y:=match a with | some a=>(match b with | some b=>qn P k o ty a b | none=>none) | none=>none
def Bt (c a b:Option Y):Option Y:=match c with | some (.bool q)=>if q then a else b | _=>none
def MC (P:Program) (G:Cx) (t:D Y) (op:Op):Option Y:=
 match op with
 | .move x=>aY G t x
 | .assign x=>aY G t x
 | .pick c a b=>Bt (aY G t c) (aY G t a) (aY G t b)
 | .binOp o ty x y _=>He P (xQ x || xQ y) o ty (aY G t x) (aY G t y)
 | .extract x i=>cS P (aY G t) (.extract x i)
 | .makeFunc x y z=>cS P (aY G t) (.makeFunc x y z)
 | .unOp x y z=>cS P (aY G t) (.unOp x y z)
 | .field x y z=>cS P (aY G t) (.field x y z)
 | _=>none
theorem vP {t:D Y} {op:Op} {v:Y} (h:MC P G t op=some v):dq P G (aY G t) V op= .val v V:=by
 unfold MC at h;split at h
 ·exact N h
 ·exact aj h
 ·unfold Bt at h;split at h
  ·rename_i q d;exact aI d h
  cases h
 ·unfold He at h;split at h
  ·rename_i a m;split at h
   ·rename_i b hb;exact aA m hb h
   cases h
  cases h
 ·exact bK Z h
 ·exact bK Z h
 ·exact bK Z h
 ·exact bK Z h
 cases h
def kN (P:Program) (G:Cx) (ops:Array Oper) (n:Nat) (t:D Y) (o:Oper):Option (D Y):=
 match bu ops t o with
 | some w=>bif w then DB n t o.dst (MC P G t o.op) else dc t n o.dst unit
 | none=>none
theorem rP {t t':D Y} {o:Oper} {l:List Oper} (h:kN P G ops n t o=some t') (hh:bG P G ops n l t' V Q):bG P G ops n (o::l) t V Q:=by
 unfold kN at h;split at h
 ·rename_i w hw;cases w with
  | true=>
   simp only[cond_true] at h;unfold DB at h;split at h
   ·rename_i v hv;exact S hw (vP hv) h hh
   cases h
  | false=>exact ae hw h hh
 cases h
def quick (P:Program) (G:Cx) (ops:Array Oper) (n:Nat):Nat->List Oper->D Y->Option (List Oper×D Y)
 | 0,l,t=>some (l,t)
 | k+1,l,t=>match l with
  | o::l=>match kN P G ops n t o with
   | some t'=>quick P G ops n k l t'
   | none=>none
  | []=>none
theorem vQ (k:Nat) {l l':List Oper} {t t':D Y} (h:quick P G ops n k l t=some (l',t')) (hh:bG P G ops n l' t' V Q):bG P G ops n l t V Q:=by
 induction k generalizing l t with
 | zero=>simp only[quick,oJ_,Prod.mk.injEq] at h;obtain⟨rfl,rfl⟩:=h;exact hh
 | succ k ih=>
  unfold quick at h;split at h
  ·split at h
   ·rename_i t1 h1;exact rP h1<|ih h
   cases h
  cases h
def mK (P:Program) (G:Cx) (ops:Array Oper) (n:Nat):Nat->List (Nat×List Nat)->D Y->Option (List (Nat×List Nat)×D Y)
 | 0,l,t=>some (l,t)
 | k+1,l,t=>match l with
  | (i,[])::l=>match ops[i]? with
   | some o=>match kN P G ops n t o with
    | some t'=>mK P G ops n k l t'
    | none=>none
   | none=>none
  | _=>none
theorem rO {t t':D Y} {i:Nat} {o:Oper} {l:List (Nat×List Nat)} (hi:ops[i]? =some o) (h:kN P G ops n t o=some t') (hh:cu P G ops n l t' V Q):cu P G ops n ((i,[])::l) t V Q:=by
 unfold kN at h;split at h
 ·rename_i w hw;cases w with
  | true=>
   simp only[cond_true] at h;unfold DB at h;split at h
   ·rename_i v hv;exact al hi hw (vP hv) h hh
   cases h
  | false=>exact aF hi hw h hh
 cases h
theorem wQ (k:Nat) {l l':List (Nat×List Nat)} {t t':D Y} (h:mK P G ops n k l t=some (l',t')) (hh:cu P G ops n l' t' V Q):cu P G ops n l t V Q:=by
 induction k generalizing l t with
 | zero=>simp only[mK,oJ_,Prod.mk.injEq] at h;obtain⟨rfl,rfl⟩:=h;exact hh
 | succ k ih=>
  unfold mK at h;split at h
  ·split at h
   ·rename_i o b;split at h
    ·rename_i t1 h1;exact rO b h1<|ih h
    cases h
   cases h
  cases h
section
variable {ev:Operand->Option Y} {K:KP} {L:Own}
theorem QW (k:Nat) {s:TypeId} {x:Operand} {i:Nat} {b:Pos} {off:Nat} (hx:ev x=some (.ptr b off)) (hk:lZ P s i=some k:=by kernel_rfl):dq P G ev V (.fieldAddr s x i)= .val (.ptr b (off+k)) V:=ax hx hk
theorem QV {c:Call} {f:Operand} {g:Nat} {fi ca args:List Y} (b:c.callee= .value f) (hf:ev f=some (.func g fi ca)) (d:sm ev c.args.toList=some args) (m:pD P g=true:=by kernel_rfl):dq P G ev V (.call c)= .enter g (fi++(args++ca)) V:=aR b hf d m
theorem QX {t:TypeId} {x:Operand} {b:Pos} {off:Nat} {cells:List Y} {e:Nat} {ro:Bool} {v:Y} (hx:ev x=some (.ptr b off)) (hb:V.m.get b=some (.row cells e ro)) (hv:nth cells off=some v) (d:du P t=some none:=by kernel_rfl):dq P G ev V (.load t x)= .val v V:=aw hx hb d hv
theorem QY {t:TypeId} {x:Operand} {b:Pos} {off n:Nat} {cells:List Y} {e:Nat} {ro:Bool} {vs:List Y} (hx:ev x=some (.ptr b off)) (hb:V.m.get b=some (.row cells e ro)) (hv:(cells.drop off).take n=vs) (d:du P t=some (some n):=by kernel_rfl) (hl:off+n<=cells.length:=by exact Nat.le_of_ble_eq_true Z):dq P G ev V (.load t x)= .val (.agg vs) V:=bA hx hb d hl hv
theorem Q6 {t:TypeId} {m:Nat} {x y:Operand} {b:Pos} {off:Nat} {v:Y} {cs cells cells':List Y} {e:Nat} (hx:ev x=some (.ptr b off)) (hy:ev y=some v) (u:bZ v=some cs) (hb:V.m.get b=some (.row cells e false)) (hl:cs.length=m) (d:bJ cs=true) (A:dj cs cells off=cells')
  (hj:(P.info? t).map (·.size)=some m:=by kernel_rfl) (hle:off+m<=cells.length:=by exact Nat.le_of_ble_eq_true Z):dq P G ev V (.store t x y)= .skip (V.setObj b (.row cells' e false)):=bz hx hy u hb hj hl hle d A
theorem QU {t:TypeId} {parts:Array (Nat×Operand)} {places:List (Nat×Nat)} {zero cs:List Y} (hf:iM (nth places) ev parts.toList zero=some cs) (hp:placesOf P t=some places:=by kernel_rfl) (hz:(ew P t).bind bZ=some zero:=by kernel_rfl) (hu:du P t=some (some zero.length):=by kernel_rfl) (b:(structOf P t).isSome=true:=by kernel_rfl):dq P G ev V (.build t parts)= .val (.agg cs) V:=dW hp hz hu hf b
theorem Q0 {e:TypeId} {cs:List Y} (hz:(ew P e).bind bZ=some cs:=by kernel_rfl) (b:pf P e=false:=by kernel_rfl):dq P G ev V (.alloc e)= .val (.ptr V.next 0) (V.alloc (.row cs e false)):=ea hz b
theorem QZ {α:Type} {m:Nat} {R:α->List Y->Prop} {l:List α} {c:Call} {t e:TypeId} {x:Operand} {v:Y} (b:bI K m R l v) (d:c.callee= .builtin .len) (u:c.argTypes[0]? =some t) (A:c.args.toList= [x]) (hx:ev x=some v) (hu:P.underlying t=some (.slice e):=by kernel_rfl):dq P G ev V (.call c)= .val (.int .i64 (.ofNat l.length)) V:=aO b d u A hu hx
theorem Q4 {t:TypeId} {x:Operand} {p v:Y} {vs:List Y} (b:H V K L) (hp:cX K p vs) (hx:ev x=some p) (hv:vs[0]? =some v) (d:du P t=some none:=by kernel_rfl):dq P G ev V (.load t x)= .val v V:=aM b hp hx d hv
theorem QQ {n:Nat} {t:D Y} {o:Oper} {l:List Oper} {α:Type} {m:Nat} {R:α->List Y->Prop} {la:List α} {v:Y} {i:Nat} {x:α} {ty e:TypeId} {xo io:Operand} {k:IntKind} {t':Y->D Y} (d:bI K m R la v) (hi:la[i]? =some x) (hw:bu ops t o=some true) (u:o.op= .indexAddr ty xo io)
  (hx:aY G t xo=some v) (b:aY G t io=some (.int k (.ofNat i)))
  (h:∀p vs,cX K p vs->vs.length=m->R x vs->bG P G ops n l (t' p) V Q) (A:P.underlying ty=some (.slice e):=by kernel_rfl) (hj:(P.info? e).map (·.size)=some m:=by kernel_rfl) (hp:∀p,dc t n o.dst p=some (t' p):=by exact fun _=>Z):bG P G ops n (o::l) t V Q:=bO d hi hw u A hj hx b hp h
theorem QR {n i:Nat} {t:D Y} {o:Oper} {l:List (Nat×List Nat)} {α:Type} {m:Nat} {R:α->List Y->Prop} {la:List α} {v:Y} {ix:Nat} {x:α} {ty e:TypeId} {xo io:Operand} {k:IntKind} {t':Y->D Y} (u:bI K m R la v) (hi:la[ix]? =some x) (b:ops[i]? =some o) (hw:bu ops t o=some true) (A:o.op= .indexAddr ty xo io)
  (hx:aY G t xo=some v) (d:aY G t io=some (.int k (.ofNat ix)))
  (h:∀p vs,cX K p vs->vs.length=m->R x vs->cu P G ops n l (t' p) V Q) (C:P.underlying ty=some (.slice e):=by kernel_rfl) (hj:(P.info? e).map (·.size)=some m:=by kernel_rfl) (hp:∀p,dc t n o.dst p=some (t' p):=by exact fun _=>Z):cu P G ops n ((i,[])::l) t V Q:=cP u hi b hw A C hj hx d hp h
end
theorem a8.Pt {W:List Nat} {t t':D Y} {a b c d e f g i a' b' c' d' e' f' g' i':Nat} (hw:(Nat.blt a 256 && (Nat.blt b 256 && (Nat.blt c 256 && Nat.blt d 256)))=true) (m:(Nat.blt e 256 && (Nat.blt f 256 && (Nat.blt g 256 && Nat.blt i 256)))=true) (u:(Nat.blt a' 256 && (Nat.blt b' 256 && (Nat.blt c' 256 && Nat.blt d' 256)))=true) (A:(Nat.blt e' 256 && (Nat.blt f' 256 && (Nat.blt g' 256 && Nat.blt i' 256)))=true) (h:a8 (a::b::c::d::e::f::g::i::a'::b'::c'::d'::e'::f'::g'::i'::W) t t'):
  ∃C E F I M R T U X u2 u3 u4 u5 u6 u7 u8,a8 W ((((((((((((((((t.put C a).put E b).put F c).put I d).put M e).put R f).put T g).put U i).put X a').put u2 b').put u3 c').put u4 d').put u5 e').put u6 f').put u7 g').put u8 i') t':=by
 obtain⟨C,E,F,I,M,R,T,U,h⟩:=h.bR hw m;obtain⟨X,u2,u3,u4,u5,u6,u7,u8,h⟩:=h.bR u A;exact⟨C,E,F,I,M,R,T,U,X,u2,u3,u4,u5,u6,u7,u8,h⟩
theorem lb {a b:Nat} (h:Nat.ble a b=true):a<=b:=Nat.le_of_ble_eq_true h
theorem nT {b:Code} {t:D Y} {Q:Ex->D Y->B->Prop} (h:Ev P G b n t V Q):bG P G ops n [] t V (dT P G n b Q):=af (ad h)
theorem nS {id:Nat} {os:Array Oper} {b:Code} {t:D Y} {Q:Ex->D Y->B->Prop} (hd:kz os.toList=false) (h:bG P G os n os.toList t V (dT P G n b Q)):bG P G ops n [] t V (dT P G n (.seq (.region id os false) b) Q):=af (ad<|ai<|ah hd h)
theorem Q5 {K:KP} {L:Own} {ev:Operand->Option Y} {t:TypeId} {x:Operand} {p:Y} {vs:List Y} {n:Nat} (b:H V K L) (hp:cX K p vs) (hx:ev x=some p) (hv:vs.length=n) (d:du P t=some (some n):=by kernel_rfl):dq P G ev V (.load t x)= .val (.agg vs) V:=bC b hp hx d hv
theorem kv {K:KP} {L:Own} {n:Nat} {t:D Y} {o:Oper} {l:List Oper} {f:Nat} {args:List Y} {u:Y} {t':Y->D Y} (hw:bu ops t o=some true) (hv:dq P G (aY G t) V o.op= .enter f args V)
  (b:aT P G f args V fun v V'=>v=u/\H V' K L) (h:∀V',H V' K L->bG P G ops n l (t' u) V' Q) (hp:∀v,dc t n o.dst v=some (t' v):=by exact fun _=>Z):bG P G ops n (o::l) t V Q:=bh hw hv hp b h
theorem kp {K:KP} {L:Own} {n:Nat} {t:D Y} {o:Oper} {l:List Oper} (d:H V K L) {ob:bU} {t':Nat->D Y} (hw:bu ops t o=some true) (hv:dq P G (aY G t) V o.op= .val (.ptr V.next 0) (V.alloc ob))
  (h:∀(V':B) (b:Nat),H V' K ((b,ob)::L)->bG P G ops n l (t' b) V' Q) (hp:∀b,dc t n o.dst (.ptr b 0)=some (t' b):=by exact fun _=>Z):bG P G ops n (o::l) t V Q:=bH d hw hv hp h
abbrev iZ:Y:=.int .i64 0
theorem oP {W:List Nat} {t t':D Y} {w:Nat} {o:Option Y} (hw:(W.elem w && Nat.blt w 256)=true) (h:a8 W t t'):a8 W t (t'.put o w):=h.put hw
theorem oR (W:List Nat) (t:D Y):a8 W t t:=.refl W t
theorem ct {α:Type} (a b:α):(bif true then a else b)=a:=rfl
theorem cf {α:Type} (a b:α):(bif false then a else b)=b:=rfl
theorem cI {a b:Int} (h:a=b):some (Y.int .i64 a)=some (Y.int .i64 b):=congrArg (fun z=>some (Y.int .i64 z)) h
theorem cB {a b:Bool} (h:a=b):Y.bool a=Y.bool b:=congrArg Y.bool h
theorem cJ {a b:Int} (h:a=b):Y.int .i64 a=Y.int .i64 b:=congrArg (Y.int .i64) h
theorem H.g0 {K:KP} {L:Own} {b:Nat} {o:bU} (h:H V K ((b,o)::L)):V.m.get b=some o:=h.get 0 Z
theorem H.g1 {K:KP} {L:Own} {e:Nat×bU} {b:Nat} {o:bU} (h:H V K (e::(b,o)::L)):V.m.get b=some o:=h.get 1 Z
theorem ky {n:Nat} {t:D Y} {o:Oper} {l:List Oper} {c:Bool} {t':Bool->D Y} (hw:bu ops t o=some true) (hv:dq P G (aY G t) V o.op= .val (.bool c) V)
  (h1:c=true->bG P G ops n l (t' true) V Q) (h0:c=false->bG P G ops n l (t' false) V Q) (hp:∀b,dc t n o.dst (.bool b)=some (t' b):=by exact fun _=>Z):bG P G ops n (o::l) t V Q:=bg hw hv hp h1 h0
end
section
variable {P:Program} {G:Cx} {n:Nat} {t:D Y} {V:B} {Q:Ex->D Y->B->Prop}
def Pp (W:List Nat) (t:D Y) (I:D Y->B->Prop) (e:Ex) (t':D Y) (V':B):Prop:=e= .normal/\a8 W t t'/\I t' V'
theorem ON {a b:Code} (W:List Nat) (I:D Y->B->Prop) (h1:Ev P G a n t V (Pp W t I)) (d:∀t' V',a8 W t t'->I t' V'->Ev P G b n t' V' Q):Ev P G (.seq a b) n t V Q:=
 ai (h1.mono fun e t' V' h=>by obtain⟨rfl,m,h4⟩:=h;exact d t' V' m h4)
end
end Go.Ev
namespace Go.Ev
variable [Env]
set_option maxRecDepth 4000
section
variable {P:Program} {G:Cx} {n:Nat} {V:B} {Q:Ex->D Y->B->Prop}
inductive Cf where
 | ops (os:Array Oper) (l:List Oper)
 | jz (os:Array Oper) (l:List (Nat×List Nat))
 | code (c:Code)
 | out (e:Ex)
inductive Fm where
 | seq (b:Code)
 | cH (id:Nat)
 | OR (I:Nat->D Y->B->Prop) (j:Nat)
def QS (P:Program) (G:Cx) (n:Nat) (Q:Ex->D Y->B->Prop):List Fm->Ex->D Y->B->Prop
 | []=>Q
 | .seq b::r=>dT P G n b (QS P G n Q r)
 | .cH id::r=>jG id (QS P G n Q r)
 | .OR I j::r=>vH I j (QS P G n Q r)
def At (P:Program) (G:Cx) (n:Nat) (V:B) (Q:Ex->D Y->B->Prop) (c:Cf) (fs:List Fm) (t:D Y):Prop:=
 match c with
 | .ops os l=>bG P G os n l t V (QS P G n Q fs)
 | .jz os l=>cu P G os n l t V (QS P G n Q fs)
 | .code c=>Ev P G c n t V (QS P G n Q fs)
 | .out e=>QS P G n Q fs e t V
def DU (P:Program) (G:Cx) (n:Nat) (c:Code) (fs:List Fm) (t:D Y):Option (Cf×List Fm×D Y):=
 match c with
 | .seq a b=>some (.code a,.seq b::fs,t)
 | .region _ os false=>bif kz os.toList then none else some (.ops os os.toList,fs,t)
 | .cond x a b=>match aY G t x with
  | some (.bool true)=>some (.code a,fs,t)
  | some (.bool false)=>some (.code b,fs,t)
  | _=>none
 | .block id b=>some (.code b,.cH id::fs,t)
 | .skip=>some (.out .normal,fs,t)
 | .label _=>some (.out .normal,fs,t)
 | .exit id=>some (.out (.exit id),fs,t)
 | .ret=>some (.out .ret,fs,t)
 | _=>none
def zR (P:Program) (G:Cx) (n:Nat) (c:Cf) (fs:List Fm) (t:D Y):Option (Cf×List Fm×D Y):=
 match c with
 | .ops _ []=>some (.out .normal,fs,t)
 | .ops os (o::l)=>match kN P G os n t o with
  | some t'=>some (.ops os l,fs,t')
  | none=>none
 | .jz _ []=>some (.out .normal,fs,t)
 | .jz os ((i,[])::l)=>match os[i]? with
  | some o=>match kN P G os n t o with
   | some t'=>some (.jz os l,fs,t')
   | none=>none
  | none=>none
 | .jz _ ((_,_::_)::_)=>none
 | .code c=>DU P G n c fs t
 | .out .normal=>match fs with
  | .seq b::r=>some (.code b,r,t)
  | .cH _::r=>some (.out .normal,r,t)
  | _=>none
 | .out (.exit j)=>match fs with
  | .seq _::r=>some (.out (.exit j),r,t)
  | .cH id::r=>bif Nat.beq j id then some (.out .normal,r,t) else some (.out (.exit j),r,t)
  | .OR _ _::r=>some (.out (.exit j),r,t)
  | []=>none
 | .out .ret=>match fs with
  | .seq _::r=>some (.out .ret,r,t)
  | .cH _::r=>some (.out .ret,r,t)
  | .OR _ _::r=>some (.out .ret,r,t)
  | []=>none
 | .out _=>none
theorem Gv {c:Code} {c':Cf} {fs fs':List Fm} {t t':D Y} (h:DU P G n c fs t=some (c',fs',t')) (hh:At P G n V Q c' fs' t'):Ev P G c n t V (QS P G n Q fs):=by
 unfold DU at h;split at h
 ·cases h;exact ai hh
 ·rename_i os;cases hd:kz os.toList with
  | true=>rw[hd] at h;cases h
  | false=>rw[hd] at h;cases h;exact ah hd hh
 ·split at h
  ·rename_i hx;cases h;exact bn hx hh
  ·rename_i hx;cases h;exact bf hx hh
  cases h
 ·cases h;exact aJ hh
 ·cases h;exact aG hh
 ·cases h;exact HE hh
 ·cases h;exact bc hh
 ·cases h;exact aD hh
 cases h
theorem yd {c c':Cf} {fs fs':List Fm} {t t':D Y} (h:zR P G n c fs t=some (c',fs',t')) (hh:At P G n V Q c' fs' t'):At P G n V Q c fs t:=by
 unfold zR at h;split at h
 ·cases h;exact af hh
 ·split at h
  ·rename_i b;cases h;exact rP b hh
  cases h
 ·cases h;exact bj hh
 ·split at h
  ·rename_i d;split at h
   ·rename_i b;cases h;exact rO d b hh
   cases h
  cases h
 ·cases h
 ·exact Gv h hh
 ·split at h
  ·cases h;exact hh
  ·cases h;exact hh
  cases h
 ·rename_i j;split at h
  ·cases h;exact hh
  ·rename_i id r;cases hj:Nat.beq j id with
   | true=>
    rw[hj] at h;cases h;have:=nB hj;subst this;exact aN hh
   | false=>rw[hj] at h;cases h;exact yQ hj hh
  ·cases h;exact hh
  cases h
 ·split at h
  ·cases h;exact hh
  ·cases h;exact hh
  ·cases h;exact hh
  cases h
 cases h
def kI (P:Program) (G:Cx) (n:Nat):Nat->Cf->List Fm->D Y->Option (Cf×List Fm×D Y)
 | 0,c,fs,t=>some (c,fs,t)
 | k+1,c,fs,t=>match zR P G n c fs t with
  | some (c',fs',t')=>kI P G n k c' fs' t'
  | none=>none
theorem ey:∀(k:Nat) {c c':Cf} {fs fs':List Fm} {t t':D Y},kI P G n k c fs t=some (c',fs',t')->At P G n V Q c' fs' t'->At P G n V Q c fs t
 | 0,_,_,_,_,_,_,h,hh=>by cases h;exact hh
 | k+1,_,_,_,_,_,_,h,hh=>by
  unfold kI at h;split at h
  ·rename_i b;exact yd b<|ey k h hh
  cases h
inductive Cd where
 | fa (s i k:Nat)
 | ag (t:Nat)
def nb (P:Program):List Cd->Bool
 | []=>true
 | .fa s i k::r=>match lZ P s i with
  | some q=>bif Nat.beq q k then nb P r else false
  | none=>false
 | .ag t::r=>match du P t with
  | some none=>nb P r
  | _=>false
def NT (P:Program) (G:Cx) (n:Nat) (os:Array Oper) (t:D Y) (o:Oper) (s i k:Nat) (x:Operand):Option (D Y):=
 match bu os t o with
 | some true=>match aY G t x with
  | some (.ptr b off)=>dc t n o.dst (.ptr b (off+k))
  | _=>none
 | _=>none
def N8 (P:Program) (G:Cx) (n:Nat) (os:Array Oper) (t:D Y) (o:Oper) (x:Operand) (b':Nat) (cells:List Y):Option (D Y×Nat):=
 match bu os t o with
 | some true=>match aY G t x with
  | some (.ptr b off)=>match nth cells off with
   | some v=>match dc t n o.dst v with
    | some t'=>some (t',b)
    | none=>none
   | none=>none
  | _=>none
 | _=>none
def OS (P:Program) (G:Cx) (n:Nat) (L:Own) (os:Array Oper) (t:D Y) (o:Oper) (hs:List Nat) (cs:List Cd) (e1 e2:List Nat):Option (D Y×List Nat×List Cd×List Nat×List Nat):=
 match o.op,hs with
 | .fieldAddr s x i,k::hs=>match NT P G n os t o s i k x with
  | some t'=>some (t',hs,.fa s i k::cs,e1,e2)
  | none=>none
 | .load ty x,k::hs=>match nth L k with
  | some (b',.row cells _ _)=>match N8 P G n os t o x b' cells with
   | some (t',b)=>some (t',hs,.ag ty::cs,b::e1,b'::e2)
   | none=>none
  | _=>none
 | _,_=>none
def QK (o:Oper):Bool:=match o.op with
 | .fieldAddr ..=>true
 | .load ..=>true
 | _=>false
def Qi (os:Array Oper) (t:D Y) (o:Oper):Bool:=match bu os t o with
 | some true=>QK o
 | _=>false
def NU (c:Cf) (t:D Y):Bool:=match c with
 | .ops os (o::_)=>Qi os t o
 | .jz os ((i,[])::_)=>match os[i]? with
  | some o=>Qi os t o
  | none=>false
 | _=>false
def I9 (P:Program) (G:Cx) (n:Nat) (L:Own) (c:Cf) (t:D Y) (hs:List Nat) (cs:List Cd) (e1 e2:List Nat):Option (Cf×D Y×List Nat×List Cd×List Nat×List Nat):=
 match c with
 | .ops os (o::l)=>match OS P G n L os t o hs cs e1 e2 with
  | some (t',hs,cs,e1,e2)=>some (.ops os l,t',hs,cs,e1,e2)
  | none=>none
 | .jz os ((i,[])::l)=>match os[i]? with
  | some o=>match OS P G n L os t o hs cs e1 e2 with
   | some (t',hs,cs,e1,e2)=>some (.jz os l,t',hs,cs,e1,e2)
   | none=>none
  | none=>none
 | _=>none
def BI (P:Program) (G:Cx) (n:Nat) (L:Own):Nat->Cf->List Fm->D Y->List Nat->List Cd->List Nat->List Nat->Option (Cf×List Fm×D Y×List Cd×List Nat×List Nat)
 | 0,c,fs,t,_,cs,e1,e2=>some (c,fs,t,cs,e1,e2)
 | k+1,c,fs,t,hs,cs,e1,e2=>match NU c t with
  | true=>match I9 P G n L c t hs cs e1 e2 with
   | some (c',t',hs',cs',e1',e2')=>BI P G n L k c' fs t' hs' cs' e1' e2'
   | none=>none
  | false=>match zR P G n c fs t with
   | some (c',fs',t')=>BI P G n L k c' fs' t' hs cs e1 e2
   | none=>none
theorem JT {s i k:Nat} {r:List Cd} (h:nb P (.fa s i k::r)=true):lZ P s i=some k/\nb P r=true:=by
 unfold nb at h;split at h
 ·rename_i q hq;cases hk:Nat.beq q k with
  | true=>rw[hk] at h;exact⟨by rw[hq,nB hk],h⟩
  | false=>rw[hk] at h;cases h
 cases h
theorem JS {t:Nat} {r:List Cd} (h:nb P (.ag t::r)=true):du P t=some none/\nb P r=true:=by
 unfold nb at h;split at h
 ·rename_i b;exact⟨b,h⟩
 cases h
theorem Iw {K:KP} {L:Own} (aq:H V K L) {os:Array Oper} {t t':D Y} {o:Oper} {M u:List Nat} {cs cs':List Cd} {e1 e2 d m:List Nat} (h:OS P G n L os t o M cs e1 e2=some (t',u,cs',d,m)) (F:nb P cs'=true) (he:d=m):
  (nb P cs=true/\e1=e2)/\bu os t o=some true/\∃v,dq P G (aY G t) V o.op= .val v V/\dc t n o.dst v=some t':=by
 unfold OS at h;split at h
 ·rename_i s x i k A C;split at h
  ·rename_i R hf;cases h;obtain⟨h1,E⟩:=JT F;unfold NT at hf;split at hf
   ·rename_i hw;split at hf
    ·rename_i b off hx;exact⟨⟨E,he⟩,hw,_,by rw[C];exact ax hx h1,hf⟩
    cases hf
   cases hf
  cases h
 ·rename_i ty x k A C;split at h
  ·rename_i b' cells ee ro I;split at h
   ·rename_i R b hf;cases h;obtain⟨h1,E⟩:=JS F;have hb:b=b':=(List.cons.inj he).1;have he':=(List.cons.inj he).2;unfold N8 at hf;split at hf
    ·rename_i hw;split at hf
     ·rename_i b2 off hx;split at hf
      ·rename_i v hv;split at hf
       ·rename_i t2 hp;cases hf;subst hb;rw[eQ] at I;exact⟨⟨E,he'⟩,hw,v,by rw[C];exact aw hx (aq.get k I) h1 hv,hp⟩
       cases hf
      cases hf
     cases hf
    cases hf
   cases h
  cases h
 cases h
theorem Ja {K:KP} {L:Own} (aq:H V K L) {c c':Cf} {fs:List Fm} {t t':D Y} {u m:List Nat} {cs cs':List Cd} {e1 e2 b d:List Nat} (h:I9 P G n L c t u cs e1 e2=some (c',t',m,cs',b,d)) (hk:nb P cs'=true) (he:b=d) (hh:At P G n V Q c' fs t'):(nb P cs=true/\e1=e2)/\At P G n V Q c fs t:=by
 unfold I9 at h;split at h
 ·split at h
  ·rename_i hy;cases h;obtain⟨h1,hw,v,hv,hp⟩:=Iw aq hy hk he;exact⟨h1,S hw hv hp hh⟩
  cases h
 ·split at h
  ·rename_i o A;split at h
   ·rename_i hy;cases h;obtain⟨h1,hw,v,hv,hp⟩:=Iw aq hy hk he;exact⟨h1,al A hw hv hp hh⟩
   cases h
  cases h
 cases h
theorem pd {K:KP} {L:Own} (aq:H V K L):∀(k:Nat) {c c':Cf} {fs fs':List Fm} {t t':D Y} {b:List Nat} {cs cs':List Cd} {e1 e2 d m:List Nat},BI P G n L k c fs t b cs e1 e2=some (c',fs',t',cs',d,m)->nb P cs'=true->d=m->At P G n V Q c' fs' t'->(nb P cs=true/\e1=e2)/\At P G n V Q c fs t
 | 0,_,_,_,_,_,_,_,_,_,_,_,_,_,h,hk,he,hh=>by cases h;exact⟨⟨hk,he⟩,hh⟩
 | k+1,_,_,_,_,_,_,_,_,_,_,_,_,_,h,hk,he,hh=>by
  unfold BI at h;split at h
  ·split at h
   ·rename_i b;obtain⟨⟨h1,A⟩,u⟩:=pd aq k h hk he hh;exact Ja aq b h1 A u
   cases h
  split at h
  ·rename_i b;obtain⟨h1,u⟩:=pd aq k h hk he hh;exact⟨h1,yd b u⟩
  cases h
end
theorem a8.Ps {W:List Nat} {t t':D Y} {w:Nat} (hw:Nat.blt w 256=true) (h:a8 (w::W) t t'):a8 W (t.put (t'.get w) w) t':=by
 rw[uc] at hw;obtain⟨h1,b,d⟩:=h;obtain⟨s,m,l⟩:=t;rw[D.rH _ _ _ _ hw,D.nJ _ hw];refine⟨h1,b,fun k hk u=>?_⟩;show _=iL (nX s w _) k;rw[kr _ _ _ _ hw hk];split
 ·rename_i e;rw[e]
 rename_i e;refine d k hk ?_;rw[List.elem_cons,u];have:(k == w)=false:=by simpa using e
 rw[this]
def p8 (o:Nat->Option Y):D Y->List Nat->D Y
 | t,[]=>t
 | t,a::r=>p8 o (t.put (o a) a) r
def xm (o:Nat->Option Y):List (Nat×Y)->Nat->Option Y
 | [],a=>o a
 | (k,v)::r,a=>bif Nat.beq a k then some v else xm o r a
theorem yt {o:Nat->Option Y}:∀{ks:List (Nat×Y)},(∀e∈ks,o e.1=some e.2)->xm o ks=o
 | [],_=>rfl
 | (k,v)::r,h=>funext fun a=>by
  show(bif Nat.beq a k then some v else xm o r a)=o a;cases hb:Nat.beq a k with
  | true=>rw[nB hb];exact(h (k,v) (.head _)).symm
  | false=>rw[yt fun e he=>h e (.tail _ he)];rfl
def okW (W:List Nat):Bool:=W.all fun k=>Nat.blt k 256
theorem a8.fn {t':D Y}:∀{W:List Nat} {t:D Y},okW W=true->a8 W t t'->t'=p8 (fun k=>t'.get k) t W
 | [],_,_,h=>h.nil
 | a::r,t,hw,h=>by
  have hw:(Nat.blt a 256 && okW r)=true:=hw;rw[bA_] at hw;exact(a8.fn (W:=r) hw.2 (h.Ps hw.1):)
section
variable {W:List Nat} {t t':D Y}
theorem a8.qs {ks:List (Nat×Y)} (h:a8 W t t') (hk:∀e∈ks,t'.get e.1=some e.2) (hw:okW W=true):∃o,t'=p8 (xm o ks) t W:=
 ⟨fun k=>t'.get k,(a8.fn hw h).trans<|congrArg (fun o=>p8 o t W) (yt hk).symm⟩
variable {k1 k2 k3 k4 k5 k6:Nat} {v1 v2 v3 v4 v5 v6:Y} (h:a8 W t t')
include h
theorem a8.q0 (hw:okW W=true):∃o,t'=p8 (xm o []) t W:=h.qs (ks:=[]) (fun e he=>by cases he) hw
theorem a8.q1 (h1:t'.get k1=some v1) (hw:okW W=true):∃o,t'=p8 (xm o [(k1,v1)]) t W:=h.qs (fun e he=>by simp at he;subst he;exact h1) hw
theorem a8.q2 (h1:t'.get k1=some v1) (b:t'.get k2=some v2) (hw:okW W=true):∃o,t'=p8 (xm o [(k1,v1),(k2,v2)]) t W:=h.qs (fun e he=>by simp at he;rcases he with rfl | rfl;exact h1;exact b) hw
theorem a8.q3 (h1:t'.get k1=some v1) (b:t'.get k2=some v2) (d:t'.get k3=some v3) (hw:okW W=true):∃o,t'=p8 (xm o [(k1,v1),(k2,v2),(k3,v3)]) t W:=h.qs (fun e he=>by simp at he;rcases he with rfl | rfl | rfl;exact h1;exact b;exact d) hw
theorem a8.q4 (h1:t'.get k1=some v1) (b:t'.get k2=some v2) (d:t'.get k3=some v3) (h4:t'.get k4=some v4) (hw:okW W=true):∃o,t'=p8 (xm o [(k1,v1),(k2,v2),(k3,v3),(k4,v4)]) t W:=h.qs (fun e he=>by simp at he;rcases he with rfl | rfl | rfl | rfl;exact h1;exact b;exact d;exact h4) hw
theorem a8.q5 (h1:t'.get k1=some v1) (b:t'.get k2=some v2) (d:t'.get k3=some v3) (h4:t'.get k4=some v4) (h5:t'.get k5=some v5) (hw:okW W=true):∃o,t'=p8 (xm o [(k1,v1),(k2,v2),(k3,v3),(k4,v4),(k5,v5)]) t W:=h.qs (fun e he=>by simp at he;rcases he with rfl | rfl | rfl | rfl | rfl;exact h1;exact b;exact d;exact h4;exact h5) hw
end
theorem oF {W:List Nat} {t t':D Y} (h:a8 W t t':=by repeat (first | with_reducible exact a8.refl _ _ | refine a8.put Z ?_)):a8 W t t':=h
def L9 (i:Nat) (t:D Y):List Y->D Y
 | []=>t
 | a::r=>L9 (i+1) (t.put (some a) i) r
theorem Qf {P:Program} {G:Cx} (b:Plain G) {f:Nat} {fn:Func} {c:Code} {args:List Y} {V:B} {R:Y->B->Prop} (hf:P.funcs[f]? =some fn) (hb:fn.body=some c) (h:Ev P G c fn.ntmps (L9 0 .leaf args) V (FH P fn R))
  (d:pL fn.ntmps args=some (L9 0 .leaf args):=by rfl) (hk:Nat.beq f HY=false:=by rfl) (hl:F5 f=false:=by rfl) (m:Gs f=false:=by rfl):aT P G f args V R:=aW b hf hb d h hk hl m
def zp:List Nat->List (Nat×List Nat)
 | []=>[]
 | a::r=>(a,[])::zp r
def rg (a:Nat):Nat->List Nat
 | 0=>[]
 | n+1=>a::rg (a+1) n
end Go.Ev
namespace Go.Ev
variable [Env]
section
variable {P:Program} {G:Cx} {n:Nat} {V:B} {Q:Ex->D Y->B->Prop} {os os2:Array Oper} {l l2:List Oper} {lp lp2:List (Nat×List Nat)} {c c2:Code} {t t2:D Y} {K:KP} {L:Own} {hs:List Nat} {cs:List Cd} {e1 e2:List Nat}
theorem OU {b:Code} {d:Nat} (k:Nat) (h:kI P G n k (.code c) [] t=some (.code c2,[.cH d,.seq b],t2)) (hh:Ev P G c2 n t2 V (jG d<|dT P G n b Q)):Ev P G c n t V Q:=(ey (Q:=Q) k h hh:)
theorem PJ {b:Code} (k:Nat) (h:kI P G n k (.code c) [] t=some (.code c2,[.seq b],t2)) (hh:Ev P G c2 n t2 V (dT P G n b Q)):Ev P G c n t V Q:=(ey (Q:=Q) k h hh:)
theorem Qj (k:Nat) (h:kI P G n k (.code c) [] t=some (.out .normal,[],t2)) (hh:Q .normal t2 V):Ev P G c n t V Q:=(ey (Q:=Q) k h hh:)
theorem PK {b:Code} (k:Nat) (h:kI P G n k (.code c) [] t=some (.ops os2 l2,[.seq b],t2)) (hh:bG P G os2 n l2 t2 V (dT P G n b Q)):Ev P G c n t V Q:=(ey (Q:=Q) k h hh:)
theorem OV {b d:Code} (k:Nat) (h:kI P G n k (.code c) [] t=some (.ops os2 l2,[.seq b,.seq d],t2)) (hh:bG P G os2 n l2 t2 V (dT P G n b<|dT P G n d Q)):Ev P G c n t V Q:=(ey (Q:=Q) k h hh:)
theorem Qk (k:Nat) (h:kI P G n k (.code c) [] t=some (.out .ret,[],t2)) (hh:Q .ret t2 V):Ev P G c n t V Q:=(ey (Q:=Q) k h hh:)
theorem Nz {b:Code} {d m:Code} {u:Nat} (k:Nat) (h:kI P G n k (.code c) [.seq b] t=some (.code c2,[.seq d,.cH u,.seq m],t2)) (hh:Ev P G c2 n t2 V (dT P G n d<|jG u<|dT P G n m Q)):Ev P G c n t V (dT P G n b Q):=(ey (Q:=Q) k h hh:)
theorem NA {b:Code} {d m:Code} {u:Nat} (k:Nat) (h:kI P G n k (.code c) [.seq b] t=some (.ops os2 l2,[.seq d,.cH u,.seq m],t2)) (hh:bG P G os2 n l2 t2 V (dT P G n d<|jG u<|dT P G n m Q)):Ev P G c n t V (dT P G n b Q):=(ey (Q:=Q) k h hh:)
theorem PL {b:Code} (k:Nat) (h:kI P G n k (.code c) [.seq b] t=some (.out .ret,[],t2)) (hh:Q .ret t2 V):Ev P G c n t V (dT P G n b Q):=(ey (Q:=Q) k h hh:)
theorem OW {b:Code} {d:Nat} {bI1:Nat->D Y->B->Prop} {j:Nat} (k:Nat) (h:kI P G n k (.code c) [.seq b,.OR bI1 d] t=some (.out (.exit j),[],t2)) (hh:Q (.exit j) t2 V):Ev P G c n t V (dT P G n b<|vH bI1 d Q):=(ey (Q:=Q) k h hh:)
theorem Ql (k:Nat) (h:kI P G n k (.ops os l) [] t=some (.ops os2 l2,[],t2)) (hh:bG P G os2 n l2 t2 V Q):bG P G os n l t V Q:=(ey (Q:=Q) k h hh:)
theorem PM {b:Code} (k:Nat) (h:kI P G n k (.ops os l) [.seq b] t=some (.code c2,[],t2)) (hh:Ev P G c2 n t2 V Q):bG P G os n l t V (dT P G n b Q):=(ey (Q:=Q) k h hh:)
theorem OX {b:Code} {d:Nat} (k:Nat) (h:kI P G n k (.ops os l) [.seq b] t=some (.code c2,[.cH d],t2)) (hh:Ev P G c2 n t2 V (jG d Q)):bG P G os n l t V (dT P G n b Q):=(ey (Q:=Q) k h hh:)
theorem OY {b:Code} {d:Code} (k:Nat) (h:kI P G n k (.ops os l) [.seq b] t=some (.ops os2 l2,[.seq d],t2)) (hh:bG P G os2 n l2 t2 V (dT P G n d Q)):bG P G os n l t V (dT P G n b Q):=(ey (Q:=Q) k h hh:)
theorem Oh {b:Code} {d m:Code} (k:Nat) (h:kI P G n k (.ops os l) [.seq b] t=some (.ops os2 l2,[.seq d,.seq m],t2)) (hh:bG P G os2 n l2 t2 V (dT P G n d<|dT P G n m Q)):bG P G os n l t V (dT P G n b Q):=(ey (Q:=Q) k h hh:)
theorem PN {b:Code} (k:Nat) (h:kI P G n k (.ops os l) [.seq b] t=some (.out .ret,[],t2)) (hh:Q .ret t2 V):bG P G os n l t V (dT P G n b Q):=(ey (Q:=Q) k h hh:)
theorem OZ {b d:Code} (k:Nat) (h:kI P G n k (.ops os l) [.seq b,.seq d] t=some (.out .ret,[],t2)) (hh:Q .ret t2 V):bG P G os n l t V (dT P G n b<|dT P G n d Q):=(ey (Q:=Q) k h hh:)
theorem O0 {b d:Code} {j:Nat} (k:Nat) (h:kI P G n k (.ops os l) [.seq b,.seq d] t=some (.out (.exit j),[],t2)) (hh:Q (.exit j) t2 V):bG P G os n l t V (dT P G n b<|dT P G n d Q):=(ey (Q:=Q) k h hh:)
theorem Qm (k:Nat) (h:kI P G n k (.jz os lp) [] t=some (.jz os2 lp2,[],t2)) (hh:cu P G os2 n lp2 t2 V Q):cu P G os n lp t V Q:=(ey (Q:=Q) k h hh:)
theorem PQ {b:Code} (k:Nat) (h:kI P G n k (.jz os lp) [.seq b] t=some (.code c2,[],t2)) (hh:Ev P G c2 n t2 V Q):cu P G os n lp t V (dT P G n b Q):=(ey (Q:=Q) k h hh:)
theorem Pa {b d:Code} (aq:H V K L) (k:Nat) (hi:List Nat) (h:BI P G n L k (.code c) [] t hi [] [] []=some (.ops os2 l2,[.seq b,.seq d],t2,cs,e1,e2)) (he:e1=e2) (hh:bG P G os2 n l2 t2 V (dT P G n b<|dT P G n d Q)) (m:nb P cs=true:=by kernel_rfl):Ev P G c n t V Q:=((pd (Q:=Q) aq k h m he hh).2:)
theorem Qn (aq:H V K L) (k:Nat) (hi:List Nat) (h:BI P G n L k (.ops os l) [] t hi [] [] []=some (.ops os2 l2,[],t2,cs,e1,e2)) (he:e1=e2) (hh:bG P G os2 n l2 t2 V Q) (b:nb P cs=true:=by kernel_rfl):bG P G os n l t V Q:=((pd (Q:=Q) aq k h b he hh).2:)
theorem PR {b:Code} (aq:H V K L) (k:Nat) (hi:List Nat) (h:BI P G n L k (.ops os l) [.seq b] t hi [] [] []=some (.out .ret,[],t2,cs,e1,e2)) (he:e1=e2) (hh:Q .ret t2 V) (d:nb P cs=true:=by kernel_rfl):bG P G os n l t V (dT P G n b Q):=((pd (Q:=Q) aq k h d he hh).2:)
theorem Qo (aq:H V K L) (k:Nat) (hi:List Nat) (h:BI P G n L k (.jz os lp) [] t hi [] [] []=some (.jz os2 lp2,[],t2,cs,e1,e2)) (he:e1=e2) (hh:cu P G os2 n lp2 t2 V Q) (b:nb P cs=true:=by kernel_rfl):cu P G os n lp t V Q:=((pd (Q:=Q) aq k h b he hh).2:)
end
inductive XE where
 | mk (op num:Int) (name:List Nat) (kids:List XE)
structure XI where
 kind:Int
 EV:Int
 loc:Int
 order:Int
 to:Int
 exprs:List XE
structure XC where
 dA:Int
 ins:List XI
def gX (K:KP):Nat->XE->List Y->Prop
 | 0,_,_=>False
 | k+1,.mk op num name kids,vs=>∃v,vs= [.int .i64 op,.int .i64 num,.str name,v]/\bI K 4 (gX K k) kids v
def qP (K:KP) (k:Nat) (x:XI) (vs:List Y):Prop:=∃v,vs= [.int .i64 x.kind,.int .i64 x.EV,.int .i64 x.loc,.int .i64 x.order,.int .i64 x.to,v]/\bI K 4 (gX K k) x.exprs v
def jF (K:KP) (k:Nat) (x:XC) (vs:List Y):Prop:=∃v,vs= [.int .i64 x.dA,v]/\bI K 6 (qP K k) x.ins v
def XE.kids:XE->List XE
 | .mk _ _ _ k=>k
theorem gX.shape {K:KP} {k:Nat} {x:XE} {vs:List Y} (h:gX K k x vs):∃op num name v,vs= [.int .i64 op,.int .i64 num,.str name,v]/\bI K 4 (gX K (k-1)) x.kids v:=by
 cases k with
 | zero=>cases x;exact h.elim
 | succ k=>
  obtain⟨op,num,name,kids⟩:=x;obtain⟨v,rfl,hk⟩:=h;exact⟨_,_,_,v,Z,hk⟩
open Classical in
def bV {α:Type} (a b:α):Bool:=decide (a=b)
theorem bP {α:Type} {a b:α}:bV a b=true↔a=b:=by unfold bV;simp
theorem jC {α:Type} {a b:α}:bV a b=false↔a≠b:=by unfold bV;simp
theorem cd {c:Bool} (h:(bif c then false else true)=true):c=false:=by cases c<;>simp_all
theorem bF {c:Bool} (h:(bif c then false else true)=false):c=true:=by cases c<;>simp_all
theorem uq {b d m u:Int} {A C:List Nat} {E F:List XE}:bV (XE.mk b d A E) (XE.mk m u C F)=(bD b m && (bD d u && (w6 A C && bV E F))):=by
 rw[cR,cR,qC,Bool.eq_iff_iff,bP];simp[bP]
theorem pe {a b:XI}:bV a b=(bD a.kind b.kind && (bD a.EV b.EV && (bD a.loc b.loc && (bD a.order b.order && (bD a.to b.to && bV a.exprs b.exprs))))):=by
 rw[cR,cR,cR,cR,cR,Bool.eq_iff_iff,bP];cases a;cases b;simp[bP]
theorem E0 {a b:XC}:bV a b=(bD a.dA b.dA && bV a.ins b.ins):=by
 rw[cR,Bool.eq_iff_iff,bP];cases a;cases b;simp[bP]
theorem dN {α:Type} {l1 l2:List α} (h:bD (.ofNat l1.length) (.ofNat l2.length)=false):bV l1 l2=false:=by
 rw[jC];rintro rfl;rw[cR] at h;simp at h
theorem cQ {α β:Type} {l1:List α} {l2:List β} (h:bD (.ofNat l1.length) (.ofNat l2.length)=true):l1.length=l2.length:=by
 rw[cR] at h
 grind
theorem ef {α:Type} {l1 l2:List α} {i:Nat} {x y:α} (hx:l1[i]? =some x) (hy:l2[i]? =some y) (h:bV x y=false):bV l1 l2=false:=by
 rw[jC] at h⊢
 grind
theorem dn {α:Type} {l1 l2:List α} {i:Nat} (hl:l1.length=l2.length) (hi:l1.length<=i) (h:∀k,k<i->l1[k]? =l2[k]?):bV l1 l2=true:=by
 rw[bP];refine List.ext_getElem? fun k=>?_
 grind
theorem gQ {α:Type} {l1 l2:List α} {i:Nat} {x y:α} (h:∀k,k<i->l1[k]? =l2[k]?) (hx:l1[i]? =some x) (hy:l2[i]? =some y) (hs:bV x y=true):∀k,k<i+1->l1[k]? =l2[k]?:=fun k hk=>by
 grind [bP]
theorem bx {a b:Nat} (h:da (.ofNat a) (.ofNat b)=false):b<=a:=by
 grind [eP]
theorem aU {a b:Nat} (h:da (.ofNat a) (.ofNat b)=true):a<b:=by
 rw[eP,decide_eq_true_iff] at h
 simp_all
theorem cF {α:Type} {l:List α} {i:Nat} (h:i<l.length):∃x,l[i]? =some x:=⟨l[i],gC h⟩
def tu (f:XE->Int->Int):List XE->Int->Int
 | [],m=>m
 | x::r,m=>bif da m 0 then m else tu f r (f x m)
def LC (name:List Nat) (left:Int):Int:=wr .i64 (Int.sub (wr .i64<|Int.sub left 1)<|wr .i64<|Int.tdiv (.ofNat<|cW name) 20)
def AU:Nat->XE->Int->Int
 | 0,_,m=>m
 | k+1,.mk _ _ name kids,m=>tu (AU k) kids (LC name m)
def Dh (k:Nat) (x:XE) (most:Int):Bool:=bif da (AU k x most) 0 then false else true
def vE (k:Nat) (x:XI):Bool:=bif da 4 (.ofNat x.exprs.length) then false else x.exprs.all fun e=>Dh k e 60
def qG (k:Nat) (most:Int) (x:XC):Bool:=bif da most (.ofNat x.ins.length) then false else x.ins.all (vE k)
def uh (k:Nat) (most:Int) (l:List XC):Bool:=(l.take 6).all (qG k most) && (bif da 6 (.ofNat l.length) then false else true)
theorem FV {f:XE->Int->Int} {l:List XE} {i:Nat} {m:Int} (h:l.length<=i):tu f (l.drop i) m=m:=by rw[List.drop_eq_nil_of_le h];rfl
theorem FU {f:XE->Int->Int} {l:List XE} {m:Int} (h:da m 0=true):tu f l m=m:=by
 cases l with
 | nil=>rfl
 | cons x r=>show(bif da m 0 then m else _)=m;rw[h];rfl
theorem Da {f:XE->Int->Int} {l:List XE} {i:Nat} {m:Int} {x:XE} (hx:l[i]? =some x) (h:da m 0=false):tu f (l.drop i) m=tu f (l.drop (i+1)) (f x m):=by
 have b:i<l.length:=(gA.1 hx).1;rw[List.drop_eq_getElem_cons b];have:l[i]=x:=(gA.1 hx).2;rw[this];show(bif da m 0 then m else _)=_;rw[h];rfl
theorem yI {α:Type} {f:α->Bool} {l:List α} {i:Nat} {x:α} (hx:l[i]? =some x) (h:f x=false):l.all f=false:=by
 grind
theorem JN {α:Type} {f:α->Bool} {l:List α} {i n:Nat} {x:α} (hx:l[i]? =some x) (hi:i<n) (h:f x=false):(l.take n).all f=false:=yI (i:=i) (by simp_all) h
theorem uD {α:Type} {f:α->Bool} {l:List α} {i:Nat} {x:α} (b:(l.take i).all f=true) (hx:l[i]? =some x) (h:f x=true):(l.take (i+1)).all f=true:=by
 rw[List.take_add_one,hx,List.all_append,b];simp[h]
theorem yJ {α:Type} {f:α->Bool} {l:List α} {i:Nat} (b:(l.take i).all f=true) (h:l.length<=i):l.all f=true:=by
 rw[tL_ h] at b;exact b
theorem Ak {α:Type} {f:α->Bool} {l:List α} {i n:Nat} (b:(l.take i).all f=true) (h:n<=i):(l.take n).all f=true:=by
 rw[aE_] at b⊢
 exact fun x hx=>b x (by
  obtain⟨j,hj⟩:=gO_ hx;rw[List.getElem?_take] at hj;split at hj
  ·exact gB_ (i:=j) (by grind)
  cases hj)
theorem gX.beq {K:KP} {k:Nat} {x:XE} {vs:List Y} (h:gX K k x vs):dH (.agg vs) (.agg vs)=true:=by
 cases k with
 | zero=>cases x;exact h.elim
 | succ k=>
  obtain⟨op,num,name,kids⟩:=x;obtain⟨v,rfl,hk⟩:=h;exact qW<|dM (gj _ _)<|dM (gj _ _)<|dM (Hc _)<|dM hk.na nq
theorem qP.beq {K:KP} {k:Nat} {x:XI} {vs:List Y} (h:qP K k x vs):dH (.agg vs) (.agg vs)=true:=by
 obtain⟨v,rfl,hk⟩:=h;exact qW<|dM (gj _ _)<|dM (gj _ _)<|dM (gj _ _)<|dM (gj _ _)<|dM (gj _ _)<|dM hk.na nq
theorem jF.beq {K:KP} {k:Nat} {x:XC} {vs:List Y} (h:jF K k x vs):dH (.agg vs) (.agg vs)=true:=by
 obtain⟨v,rfl,hk⟩:=h;exact qW<|dM (gj _ _)<|dM hk.na nq
theorem cO {α:Type} {l:List α} {i:Nat} (h:da (.ofNat i) (.ofNat l.length)=true):∃x,l[i]? =some x/\i<l.length:=by
 rw[eP,decide_eq_true_iff] at h
 simp_all
end Go.Ev
namespace Go.Ev
variable [Env]
def dG (n:Int) (vs:List Y):Prop:=vs= [.int .i64 n]
def RL {α:Type} (K:KP) (m:Nat) (R:α->List Y->Prop) (l:List α) (vs:List Y):Prop:=∃v,vs= [v]/\bI K m R l v
theorem q9 {a b:Int}:bD a b=bV a b:=by rw[cR,Bool.eq_iff_iff,decide_eq_true_iff,bP]
def CZ (xs ys:List Int):Bool:=
 List.rec (motive:=fun _=>List Int->Bool) (fun ys=>List.rec (motive:=fun _=>Bool) true (fun _ _ _=>false) ys)
  (fun x _ ih ys=>List.rec (motive:=fun _=>Bool) false (fun y r _=>bif bD x y then ih r else false) ys) xs ys
theorem Ej:∀(xs ys:List Int),CZ xs ys=bV xs ys
 | [],[]=>by rw[show CZ [] []=true from Z,eq_comm,bP]
 | [],_::_=>by rw[show CZ [] (_::_)=false from Z,eq_comm,jC];simp
 | _::_,[]=>by rw[show CZ (_::_) []=false from Z,eq_comm,jC];simp
 | x::xs,y::ys=>by
  show(bif bD x y then CZ xs ys else false)=_;rw[Ej xs ys,cR,Bool.eq_iff_iff,bP]
  grind [bP]
def ints (xs:List Int):List Y:=xs.map (.int .i64)
def HZ:Option TypeDesc->Bool
 | some (.int .i64)=>true
 | _=>false
def sr (P:Program) (fs:List Field):Nat->Bool:=List.rec (motive:=fun _=>Nat->Bool) (fun _=>true) (fun f _ ih k=>HZ (P.underlying f.type) && (Nat.beq f.offset k && ih (k+1))) fs
def gV (P:Program) (t:TypeId) (n:Nat):Bool:=
 match structOf P t with
 | some fs=>sr P fs.toList 0 && (Nat.beq fs.toList.length n && (!P.eqGuardType P.depth t && (!P.stoodInHeld t && jX fs.toList)))
 | none=>false
theorem pS {P:Program}:∀(fs:List Field) (k:Nat) (xs ys:List Int),sr P fs k=true->xs.length=k+fs.length->ys.length=k+fs.length->eqFields P fs (ints xs) (ints ys)=some (CZ (xs.drop k)<|ys.drop k)
 | [],k,xs,ys,_,h1,d=>by
  rw[List.drop_eq_nil_of_le (by simp at h1;omega),List.drop_eq_nil_of_le (by simp at d;omega)];rfl
 | f::fs,k,xs,ys,h,h1,d=>by
  have h':(HZ (P.underlying f.type) && (Nat.beq f.offset k && sr P fs (k+1)))=true:=h;simp only[bA_] at h';obtain⟨e1,e2,u⟩:=h';have hk:f.offset=k:=nB e2
  have hu:P.underlying f.type=some (.int .i64):=by
   grind [HZ]
  have l1:k<xs.length:=by simp at h1;omega
  have l2:k<ys.length:=by simp at d;omega
  have A:nth (ints xs) f.offset=some (.int .i64 xs[k]):=by grind [eQ,ints]
  have C:nth (ints ys) f.offset=some (.int .i64 ys[k]):=by grind [eQ,ints]
  have ih:=pS fs (k+1) xs ys u (by simp at h1⊢;omega) (by simp at d⊢;omega)
  show(match P.underlying f.type,nth (ints xs) f.offset,nth (ints ys) f.offset with
   | some .bool,some (.bool a),some (.bool b)=>bif (bif a then b else(bif b then false else true)) then eqFields P fs (ints xs) (ints ys) else some false
   | some (.int _),some (.int j a),some (.int k b)=>bif rZ j k then(bif bD a b then eqFields P fs (ints xs) (ints ys) else some false) else none
   | some .string,some (.str a),some (.str b)=>bif w6 a b then eqFields P fs (ints xs) (ints ys) else some false
   | some (.struct gs),_,_=>_
   | some (.array m e),_,_=>_
   | _,_,_=>none)=_
  rw[hu,A,C,List.drop_eq_getElem_cons l1,List.drop_eq_getElem_cons l2,ih];show(bif bD xs[k] ys[k] then _ else some false)=some (bif bD xs[k] ys[k] then CZ (xs.drop (k+1)) (ys.drop (k+1)) else false)
  grind
theorem uS {P:Program} {t:TypeId} {n:Nat} {xs ys:List Int} (h:gV P t n=true) (hx:xs.length=n) (hy:ys.length=n):Cp P t (.agg<|ints xs) (.agg<|ints ys)=some (bV xs ys):=by
 unfold gV at h;split at h
 ·rename_i fs b;simp only[bA_,Bool.not_eq_true'] at h;obtain⟨h1,d,m,h4,h5⟩:=h;have hn:fs.toList.length=n:=nB d;unfold Cp;dsimp only;rw[b];dsimp only;rw[m,h4,h5];simp only[Bool.not_true,Bool.or_false,cond_false];rw[pS fs.toList 0 xs ys h1 oM oM,List.drop_zero,List.drop_zero,Ej]
 cases h
section
variable {P:Program} {G:Cx} {ev:Operand->Option Y} {V:B}
theorem Jt {t r:TypeId} {x y:Operand} {n:Nat} {ca cb:List Int} (h:gV P t n=true) (b:ca.length=n) (hb:cb.length=n) (hx:ev x=some (.agg<|ints ca)) (hy:ev y=some (.agg<|ints cb)):dq P G ev V (.binOp .eql t x y r)= .val (.bool<|bV ca cb) V:=by
 refine aA hx hy ?_;show km P .eql t _ _=_;unfold km;dsimp only;rw[uS h b hb]
theorem Fq {t r:TypeId} {x y:Operand} {n:Nat} {ca cb:List Int} (h:gV P t n=true) (b:ca.length=n) (hb:cb.length=n) (hx:ev x=some (.agg<|ints ca)) (hy:ev y=some (.agg<|ints cb)):dq P G ev V (.binOp .neq t x y r)= .val (.bool (bif bV ca cb then false else true)) V:=by
 refine aA hx hy ?_;show km P .neq t _ _=_;unfold km;dsimp only;rw[uS h b hb]
end
structure cm where
 bX:Int
 index:Int
structure cq where
 kind:Int
 loc:Int
 order:Int
 read:Int
 write:Int
structure XG where
 init:List Int
 threads:List (List cq)
 from_:List (List cm)
 order:List (List cm)
def cm.ints (x:cm):List Int:=[x.bX,x.index]
def cq.ints (x:cq):List Int:=[x.kind,x.loc,x.order,x.read,x.write]
theorem cm.same {x y:cm}:bV x.ints y.ints=bV x y:=by
 rw[Bool.eq_iff_iff,bP,bP];cases x;cases y;simp[cm.ints]
theorem cq.same {x y:cq}:bV x.ints y.ints=bV x y:=by
 rw[Bool.eq_iff_iff,bP,bP];cases x;cases y;simp[cq.ints]
def nh (x:cm) (vs:List Y):Prop:=vs=ints x.ints
def qQ (x:cq) (vs:List Y):Prop:=vs=ints x.ints
structure dC (K:KP) (g:XG) (a b c d:Y):Prop where
 init:bI K 1 dG g.init a
 threads:bI K 1 (RL K 5 qQ) g.threads b
 from_:bI K 1 (RL K 2 nh) g.from_ c
 order:bI K 1 (RL K 2 nh) g.order d
theorem lj {a b:XG}:bV a b=(bV a.init b.init && (bV a.threads b.threads && (bV a.from_ b.from_ && bV a.order b.order))):=by
 rw[Bool.eq_iff_iff,bP];cases a;cases b;simp[bP]
def dw (e:cq):Bool:=bif bD e.kind 1 then true else bD e.kind 3
def br (e:cq):Bool:=bif bD e.kind 2 then true else bD e.kind 3
def bW (b:Bool):Bool:=bif b then false else true
def bE (e:cq) (n:Int):Bool:=
 bif da e.kind 1 then false else bif da 4 e.kind then false else bif da e.order 1 then false else bif da 6 e.order then false else
 bif (bif (!dw e) then bW (bD e.read 0) else false) then false else bif (bif (!br e) then bW (bD e.write 0) else false) then false else
 bif bD e.kind 4 then bD e.loc 0 else bif bW (da e.loc 0) then da e.loc n else false
def dR (g:XG) (id:cm):Option cq:=
 match id.bX,id.index with
 | .ofNat 0,.ofNat i=>(g.init[i]?).map fun v=>⟨2,i,1,0,v⟩
 | .ofNat (t+1),.ofNat i=>(g.threads[t]?).bind (·[i]?)
 | _,_=>none
def uU (x:Option cq):cq:=x.getD ⟨0,0,0,0,0⟩
theorem sj {g:XG} {th ix:Int} (h:da th 0=true):dR g ⟨th,ix⟩=none:=by
 rw[eP,decide_eq_true_iff] at h;cases th with
 | ofNat t=>grind
 | negSucc t=>rfl
theorem oH {g:XG} {th ix:Int} (h:da ix 0=true):dR g ⟨th,ix⟩=none:=by
 rw[eP,decide_eq_true_iff] at h;cases ix with
 | ofNat t=>grind
 | negSucc t=>cases th with
  | ofNat n=>cases n<;>rfl
  | negSucc n=>rfl
theorem AI {g:XG} {th ix:Int} (h:da (.ofNat g.threads.length) th=true):dR g ⟨th,ix⟩=none:=by
 rw[eP,decide_eq_true_iff] at h;cases th with
 | negSucc t=>rfl
 | ofNat t=>
  have h:g.threads.length<t:=Int.ofNat_lt.1 h;cases t with
  | zero=>omega
  | succ t=>
   cases ix with
   | negSucc n=>rfl
   | ofNat n=>
    show(g.threads[t]?).bind _=none
    grind
theorem mF {n:Int} (h:da n 0=false):∃m:Nat,n= .ofNat m:=by
 rw[eP,decide_eq_false_iff_not] at h;cases n with
 | ofNat m=>exact⟨m,Z⟩
 | negSucc m=>omega
theorem E8 {n:Nat} (h:bD (.ofNat n) 0=false):∃m:Nat,n=m+1:=by
 cases n with
 | zero=>cases h
 | succ m=>exact⟨m,Z⟩
theorem gy {t:Nat} (h:t<=9223372036854775807):wr .i64 (Int.sub (.ofNat (t+1)) 1)= .ofNat t:=by
 have e:Int.sub (.ofNat (t+1)) 1= .ofNat t:=by
  grind
 rw[e];show(bif Nat.ble t 9223372036854775807 then _ else _)=_
 grind [nE_]
theorem l8 {a b:Nat} (h:da (.ofNat a) (.ofNat b)=false):b<=a:=bx h
theorem iy {a b:Nat} (h:(bif da (.ofNat a) (.ofNat b) then false else true)=false):a<b:=aU (bF h)
theorem ik {a b:Nat} (h:(bif da (.ofNat a) (.ofNat b) then false else true)=true):b<=a:=bx (cd h)
section
variable {P:Program} {G:Cx} {n:Nat} {t:D Y} {V:B} {Q:Ex->D Y->B->Prop}
theorem mL {fn:Func} {j k ty b m e:Nat} {ro:Bool} {cells:List Y} {v:Y} (u:fn.results.toList= [.cell j ty,.tmp k]) (h1:t.get j=some (.ptr b 0)) (hm:V.m.get b=some (.row cells e ro)) (A:du P ty=some (some m)) (d:cells.length=m) (C:t.get k=some v):dB P fn t V=some (.tuple [.agg cells,v]):=by
 unfold dB;rw[u]
 have e1:eJ P t V (.cell j ty)=some (Y.agg cells):=by
  show(match t.get (posOf j) with
   | some (.ptr b off)=>match V.m.get b with
    | some (.row cells _ _)=>match du P ty with
     | some (some n)=>bif Nat.ble (off+n) (cW cells) then some (Y.agg<|takeN (dp cells off) n) else none
     | some none=>nth cells off
     | none=>none
    | _=>none
   | _=>none)=_
  rw[show t.get (posOf j)=some (.ptr b 0) from h1];dsimp only;rw[hm];dsimp only;rw[A];dsimp only;rw[bN,d,nA_,show Nat.ble m m=true by simp_all,cV,di,List.drop_zero,<-d,List.take_length];rfl
 have e2:eJ P t V (.tmp k)=some v:=C
 have:bY (eJ P t V) [.cell j ty,.tmp k]=some [Y.agg cells,v]:=by
  unfold bY;simp only[e1,e2]
 rw[this]
theorem eN {fn:Func} {R:Y->B->Prop} {j k ty b m e:Nat} {ro:Bool} {cells:List Y} {v:Y} (d:fn.results.toList= [.cell j ty,.tmp k]) (h1:t.get j=some (.ptr b 0)) (hm:V.m.get b=some (.row cells e ro)) (u:du P ty=some (some m)) (A:cells.length=m) (C:t.get k=some v) (E:R (.tuple [.agg cells,v]) V):FH P fn R .ret t V:=
 ⟨.inr Z,_,mL d h1 hm u A C,E⟩
end
end Go.Ev
namespace Go.Ev
variable [Env]
def cz (g:XG) (id from_:cm):Bool:=
 bif !dw (uU<|dR g id) then bV [from_.bX,from_.index] [0,0] else
 bif (dR g from_).isSome then
  bif (bif bV [from_.bX,from_.index] [id.bX,id.index] then false else true) then
   bif br (uU<|dR g from_) then
    bif bD (uU<|dR g from_).loc (uU<|dR g id).loc then bD (uU<|dR g from_).write (uU<|dR g id).read else false
   else false
  else false
 else false
def dV (g:XG):Bool:=bif da 4 (.ofNat g.threads.length) then true else bif da 6 (.ofNat g.init.length) then true else g.threads.any fun l=>da 14 (.ofNat l.length)
abbrev LM:=List (List Int×Int)
inductive eD (n:Nat):List dU->LM->Prop
 | nil:eD n [] []
 | cons {e:dU} {k:List Int} {v:Int} {es:List dU} {m:LM}:k.length=n->e.key= .agg (ints k)->e.val= .int .i64 v->eD n es m->eD n (e::es) ((k,v)::m)
def nN:LM->List Int->Nat->Option (Nat×Int)
 | [],_,_=>none
 | (k',v)::m,k,i=>bif bV k k' then some (i,v) else nN m k (i+1)
def eT (m:LM) (k:List Int):Option Int:=(nN m k 0).map (·.2)
def nO (m:LM) (k:List Int) (v:Int):LM:=
 match nN m k 0 with
 | some (i,_)=>m.set i (k,v)
 | none=>m++[(k,v)]
def jM (m:LM) (k:List Int):LM:=
 match nN m k 0 with
 | some (i,_)=>m.eraseIdx i
 | none=>m
theorem eD.length {n:Nat} {es:List dU} {m:LM} (h:eD n es m):es.length=m.length:=by
 induction h with
 | nil=>rfl
 | cons _ _ _ _ ih=>simp[ih]
theorem eD.set {n:Nat} {es:List dU} {m:LM} (h:eD n es m) {e:dU} {k:List Int} {v:Int} (h1:k.length=n) (u:e.key= .agg (ints k)) (A:e.val= .int .i64 v):∀i,eD n (es.set i e) (m.set i (k,v)):=by
 induction h with
 | nil=>intro i;exact .nil
 | cons a b c d ih=>
  intro i;cases i with
  | zero=>exact .cons h1 u A d
  | succ i=>exact .cons a b c (ih i)
theorem eD.snoc {n:Nat} {es:List dU} {m:LM} (h:eD n es m) {e:dU} {k:List Int} {v:Int} (h1:k.length=n) (u:e.key= .agg (ints k)) (A:e.val= .int .i64 v):eD n (es++[e]) (m++[(k,v)]):=by
 induction h with
 | nil=>exact .cons h1 u A .nil
 | cons a b c d ih=>exact .cons a b c ih
theorem eD.erase {n:Nat} {es:List dU} {m:LM} (h:eD n es m):∀i,eD n (es.eraseIdx i) (m.eraseIdx i):=by
 induction h with
 | nil=>intro i;exact .nil
 | cons a b c d ih=>
  intro i;cases i with
  | zero=>exact d
  | succ i=>exact .cons a b c (ih i)
theorem eD.at {n:Nat} {es:List dU} {m:LM} (h:eD n es m):∀{i:Nat} {k:List Int} {v:Int},m[i]? =some (k,v)->∃e,es[i]? =some e/\k.length=n/\e.key= .agg (ints k):=by
 induction h with
 | nil=>simp_all
 | cons a b c d ih=>
  grind
theorem uP:∀(es:List dU) (i:Nat),uN es i=es.eraseIdx i
 | [],_=>rfl
 | _::_,0=>rfl
 | e::es,i+1=>by
  show e::uN es i=e::es.eraseIdx i;rw[uP es i]
theorem oS:∀{m:LM} {k:List Int} {i j:Nat} {v:Int},nN m k i=some (j,v)->i<=j/\m[j-i]? =some (k,v)
 | [],k,i,j,v,h=>by cases h
 | (k',v')::m,k,i,j,v,h=>by
  have h':(bif bV k k' then some (i,v') else nN m k (i+1))=some (j,v):=h;cases b:bV k k' with
  | true=>
   grind [bP]
  | false=>
   rw[b] at h';obtain⟨h1,h2⟩:=oS h'
   grind
theorem pN:∀(xs:List Int),np (ints xs) (ints xs)=true
 | []=>rfl
 | x::xs=>by
  have e:qB (.int .i64 x) (.int .i64 x)=some true:=by
   show(bif rZ .i64 .i64 then some (bD x x) else none)=some true;rw[cR];simp[rZ]
  show(match qB (.int .i64 x) (.int .i64 x) with | some true=>np (ints xs) (ints xs) | _=>false)=true;rw[e];exact pN xs
section
variable {P:Program}
theorem vd {t:TypeId} {fs:Array Field} {n:Nat} (hu:P.underlying t=some (.struct fs)) (u:gV P t n=true) {k:List Int} (hk:k.length=n) {es:List dU} {m:LM} (h:eD n es m):∀i,kX P t (.agg<|ints k) es i=some ((nN m k i).map fun x=>(x.1,.int .i64 x.2)):=by
 induction h with
 | nil=>intro i;rfl
 | @cons e k' v es m a b c d ih=>
  intro i
  have hq:kB P t (.agg<|ints k) e.key=some (bV k k'):=by
   unfold kB;rw[hu,b];exact uS u hk a
  show(match kB P t (.agg<|ints k) e.key with
   | some true=>some (some (i,e.val))
   | some false=>kX P t (.agg<|ints k) es (i+1)
   | none=>none)=some (Option.map _ (bif bV k k' then some (i,v) else nN m k (i+1)))
  grind
structure Ct (P:Program) (t kt et:TypeId) (n:Nat):Prop where
 ty:P.underlying t=some (.map kt et)
 plain:plainKey P kt=true
 ints:gV P kt n=true
 zero:ew P et=some (.int .i64 0)
 shape:∀k:List Int,k.length=n->iv P kt (.agg<|Go.Ev.ints k)=true
theorem jK {t:TypeId} {n:Nat} (h:gV P t n=true):∃fs,P.underlying t=some (.struct fs):=by
 grind [gV,structOf,mm]
variable {G:Cx} {ev:Operand->Option Y} {V:B}
theorem Jw {t kt et:TypeId} {n:Nat} (d:Ct P t kt et n) {b:Nat} {es:List dU} {ck:Nat} {m:LM} (hm:eD n es m) (hb:V.m.get b=some (.map es ck)) {mo ko xo:Operand} {k:List Int} {v:Int} (hk:k.length=n) (h1:ev mo=some (.map b)) (A:ev ko=some (.agg<|ints k)) (C:ev xo=some (.int .i64 v)):
  ∃es' ck',dq P G ev V (.mapUpdate t mo ko xo)= .skip (V.setObj b (.map es' ck'))/\eD n es' (nO m k v):=by
 obtain⟨fs,hu⟩:=jK d.ints;have hf:=vd hu d.ints hk hm 0
 have key:∃es' ck',jn P V t (.map b) (.agg<|ints k) (.int .i64 v)=some (V.setObj b (.map es' ck'))/\eD n es' (nO m k v):=by
  unfold jn nO;rw[d.ty];dsimp only;rw[hb];dsimp only;rw[d.plain,d.shape k hk];simp only[Bool.and_self,cond_true];rw[hf];cases hl:nN m k 0 with
  | none=>exact⟨_,_,Z,by rw[dv];exact hm.snoc hk Z Z⟩
  | some x=>
   obtain⟨i,v0⟩:=x;have hi:=(oS hl).2;rw[Nat.sub_zero] at hi;obtain⟨e,he,_,u⟩:=hm.at hi;simp only[Option.map_some];rw[eQ,he];dsimp only;have E:sameKey e.key (.agg<|ints k)=true:=by rw[u];exact pN k
   rw[E];exact⟨_,_,Z,by unfold zM;rw[sR];exact hm.set (e:={key:=.agg<|ints k,val:=.int .i64 v,born:=e.born}) hk Z Z i⟩
 obtain⟨es',ck',h4,h5⟩:=key;refine⟨es',ck',gz Z ?_,h5⟩;simp only[eO,h1,A,C,h4]
theorem Jv {t kt et:TypeId} {n:Nat} (d:Ct P t kt et n) {b:Nat} {es:List dU} {ck:Nat} {m:LM} (hm:eD n es m) (hb:V.m.get b=some (.map es ck)) {mo ko:Operand} {k:List Int} (hk:k.length=n) (h1:ev mo=some (.map b)) (u:ev ko=some (.agg<|ints k)):
  dq P G ev V (.lookup t mo ko true)= .val (.tuple [.int .i64 ((eT m k).getD 0),.bool (eT m k).isSome]) V:=by
 obtain⟨fs,hu⟩:=jK d.ints;have hf:=vd hu d.ints hk hm 0;refine ot Z ?_;simp only[eE,d.ty,u,h1,hb,d.plain,d.shape k hk,Bool.and_self,cond_true,hf,d.zero];unfold eT;cases nN m k 0 with
 | none=>rfl
 | some x=>rfl
theorem Js {c:Call} {t kt et:TypeId} {n:Nat} (d:Ct P t kt et n) {b:Nat} {es:List dU} {ck:Nat} {m:LM} (hm:eD n es m) (hb:V.m.get b=some (.map es ck)) {mo ko:Operand} {k:List Int} (hk:k.length=n) (u:c.callee= .builtin .delete) (A:c.argTypes[0]? =some t) (C:c.args.toList= [mo,ko]) (h1:ev mo=some (.map b)) (E:ev ko=some (.agg<|ints k)):
  ∃es',dq P G ev V (.call c)= .val (.tuple []) (V.setObj b (.map es' ck))/\eD n es' (jM m k):=by
 obtain⟨fs,hu⟩:=jK d.ints;have hf:=vd hu d.ints hk hm 0
 have key:∃es',oE P V c.argTypes (.map b) (.agg<|ints k)=some (V.setObj b (.map es' ck))/\eD n es' (jM m k):=by
  unfold oE jM;rw[A];dsimp only;rw[d.ty];dsimp only;rw[hb];dsimp only;rw[d.plain,d.shape k hk];simp only[Bool.and_self,cond_true];rw[hf];cases hl:nN m k 0 with
  | none=>grind
  | some x=>
   obtain⟨i,v0⟩:=x;exact⟨_,Z,by rw[uP];exact hm.erase i⟩
 obtain⟨es',h4,h5⟩:=key;refine⟨es',gz (by simp[kindOf,u]) ?_,h5⟩
 have he:sm ev [mo,ko]=some [.map b,.agg<|ints k]:=by
  unfold sm bY;simp only[h1,E]
 simp only[eO,u,C,he,h4]
theorem Ju {c:Call} {t kt et:TypeId} {n:Nat} (d:Ct P t kt et n) {b:Nat} {es:List dU} {ck:Nat} {m:LM} (hm:eD n es m) (hb:V.m.get b=some (.map es ck)) {mo:Operand} (u:c.callee= .builtin .len) (A:c.argTypes[0]? =some t) (C:c.args.toList= [mo]) (h1:ev mo=some (.map b)):
  dq P G ev V (.call c)= .val (.int .i64 (.ofNat m.length)) V:=by
 refine ot (by simp[kindOf,u,isMap,A,d.ty]) ?_;simp only[eE,u,A,C,d.ty,h1,hb,bN,hm.length]
end
section
variable {P:Program} {G:Cx} {n:Nat} {t:D Y} {V:B} {K:KP} {L:Own} {Q:Ex->D Y->B->Prop} {ops:Array Oper} {o:Oper} {l:List Oper}
theorem LN (d:H V K L) {t':Nat->D Y} (hw:bu ops t o=some true) (hv:dq P G (aY G t) V o.op= .val (.map V.next) (V.alloc (.map [] 0))) (hp:∀b,dc t n o.dst (.map b)=some (t' b))
  (h:∀(V':B) (b:Nat),H V' K ((b,.map [] 0)::L)->bG P G ops n l (t' b) V' Q):bG P G ops n (o::l) t V Q:=
 S hw hv (hp _) (h _ _<|d.alloc _)
theorem yD {ev:Operand->Option Y} {ty:TypeId}:dq P G ev V (.makeMap ty none)= .val (.map V.next) (V.alloc (.map [] 0)):=by
 exact pA (op:=.makeMap ty none) (mk:=.map) (ob:=.map [] 0) Z Z
theorem Gc {ty kt et:TypeId} {kn:Nat} (u:Ct P ty kt et kn) {b:Nat} {es:List dU} {ck:Nat} {m:LM} {x:Nat×bU} (hm:eD kn es m) (d:H V K (x::(b,.map es ck)::L)) {mo ko xo:Operand} {k:List Int} {v:Int} {t':D Y} (hk:k.length=kn) (hw:bu ops t o=some true) (A:o.op= .mapUpdate ty mo ko xo)
  (h1:aY G t mo=some (.map b)) (C:aY G t ko=some (.agg<|ints k)) (E:aY G t xo=some (.int .i64 v)) (hp:dc t n o.dst unit=some t')
  (h:∀V' es' ck',H V' K (x::(b,.map es' ck')::L)->eD kn es' (nO m k v)->bG P G ops n l t' V' Q):bG P G ops n (o::l) t V Q:=by
 obtain⟨es',ck',e1,e2⟩:=Jw (G:=G) u hm (d.get 1 Z) hk h1 C E;exact mC hw (by rw[A];exact e1) hp<|h _ _ _ (d.MQ _) e2
theorem Gb {c:Call} {ty kt et:TypeId} {kn:Nat} (u:Ct P ty kt et kn) {b:Nat} {es:List dU} {ck:Nat} {m:LM} {x:Nat×bU} (hm:eD kn es m) (d:H V K (x::(b,.map es ck)::L)) {mo ko:Operand} {k:List Int} {t':D Y} (hk:k.length=kn) (hw:bu ops t o=some true) (A:o.op= .call c)
  (C:c.callee= .builtin .delete) (E:c.argTypes[0]? =some ty) (F:c.args.toList= [mo,ko]) (h1:aY G t mo=some (.map b)) (I:aY G t ko=some (.agg<|ints k)) (hp:dc t n o.dst (.tuple [])=some t')
  (h:∀V' es',H V' K (x::(b,.map es' ck)::L)->eD kn es' (jM m k)->bG P G ops n l t' V' Q):bG P G ops n (o::l) t V Q:=by
 obtain⟨es',e1,e2⟩:=Js (G:=G) u hm (d.get 1 Z) hk C E F h1 I;exact S hw (by rw[A];exact e1) hp<|h _ _ (d.MQ _) e2
end
end Go.Ev
namespace Go.Ev
variable [Env]
def vu (t:Nat) (m:LM) (n:Nat) (e:cq):LM:=bif br e then nO m [.ofNat (t+1),.ofNat n] e.loc else m
def pC (t:Nat):List cq->Nat->LM->LM
 | [],_,m=>m
 | e::l,n,m=>pC t l (n+1) (vu t m n e)
def nf:List (List cq)->Nat->LM->LM
 | [],_,m=>m
 | l::r,t,m=>nf r (t+1) (pC t l 0 m)
def jR (loc:Nat):List cm->LM->Option LM
 | [],m=>some m
 | id::l,m=>bif (eT m id.ints).isSome then(bif bD ((eT m id.ints).getD 0) (.ofNat loc) then jR loc l (jM m id.ints) else none) else none
def lE:List (List cm)->Nat->LM->Option LM
 | [],_,m=>some m
 | l::r,loc,m=>(jR loc l m).bind (lE r (loc+1))
def dZ (g:XG):Bool:=
 match lE g.order 0 (nf g.threads 0 []) with
 | some m=>bD (.ofNat m.length) 0
 | none=>false
theorem cD {α:Type} {l:List α} {i:Nat} {x:α} (h:l[i]? =some x):l.drop i=x::l.drop (i+1):=by
 grind [List.drop_eq_getElem_cons]
theorem eZ {α:Type} {l:List α} {i:Nat} (h:l.length<=i):l.drop i= []:=List.drop_eq_nil_of_le h
end Go.Ev
namespace Go.Ev
theorem vO {b:Bool} (h:(!b)=true):b=false:=by cases b<;>simp_all
theorem jN {b:Bool} (h:(!b)=false):b=true:=by cases b<;>simp_all
end Go.Ev
namespace Go.Ev
variable [Env]
def fA {α:Type} (p:α->Bool):List α->Nat->Int
 | [],_=>-1
 | x::r,i=>bif p x then .ofNat i else fA p r (i+1)
theorem AW {α:Type} {p:α->Bool}:∀(l:List α) (i:Nat),(bif da (fA p l i) 0 then false else true)=l.any p
 | [],_=>rfl
 | x::r,i=>by
  show(bif da (bif p x then .ofNat i else fA p r (i+1)) 0 then false else true)=_;rw[List.any_cons];cases p x with
  | true=>rfl
  | false=>exact AW r (i+1)
def wW (g:XG) (t n:Nat) (e:cq) (f:cm):Bool:=bif bE e (.ofNat g.init.length) then cz g ⟨.ofNat (t+1),.ofNat n⟩ f else false
def oa (g:XG) (t:Nat):List cq->List cm->Nat->Bool
 | e::l,f::q,n=>bif wW g t n e f then oa g t l q (n+1) else false
 | [],_,_=>true
 | _::_,[],_=>false
def jP (g:XG):List (List cq)->List (List cm)->Nat->Bool
 | l::r,f::q,t=>bif bD (.ofNat f.length) (.ofNat l.length) then(bif oa g t l f 0 then jP g r q (t+1) else false) else false
 | [],_,_=>true
 | _::_,[],_=>false
def cy (g:XG):Int:=
 bif dV g then 3 else bif bD (.ofNat g.from_.length) (.ofNat g.threads.length) then(bif bD (.ofNat g.order.length) (.ofNat g.init.length) then(bif jP g g.threads g.from_ 0 then(bif dZ g then 0 else 2) else 2) else 2) else 2
theorem wB:∀(l:List Y) (off:Nat),dj [] l off=l
 | [],_=>rfl
 | x::l,0=>rfl
 | x::l,off+1=>by
  show x::dj [] l off=x::l;rw[wB l off]
def ql (P:Program) (e:TypeId) (m:Nat):Bool:=
 match P.info? e with
 | some j=>Nat.beq j.size m && (Nat.ble 1 j.size && (Nat.ble j.bytes 65536 && ((j.zero.bind nQ).any fun z=>(bZ z).any fun cs=>Nat.beq (cW cs) j.size)))
 | none=>false
theorem s6:∀(l r:List Y),bJ l=true->bJ r=true->bJ (l++r)=true
 | [],r,_,h=>h
 | v::l,r,h,h'=>by
  have h1:(bif gn v then bJ l else false)=true:=h;cases hv:gn v with
  | false=>rw[hv] at h1;cases h1
  | true=>rw[hv] at h1;exact ar hv<|s6 l r h1 h'
theorem tA {m:Nat}:∀(n:Nat) (cells:List Y),cells.length=n*m->(∀i,i<n->bJ ((cells.drop (i*m)).take m)=true)->bJ cells=true
 | 0,cells,h,_=>by
  rw[Nat.zero_mul] at h;rw[eN_ h];rfl
 | n+1,cells,h,hh=>by
  have e:cells=cells.take m++cells.drop m:=(List.take_append_drop m cells).symm;rw[Nat.succ_mul] at h;rw[e];refine s6 _ _ (by have:=hh 0 oM;grind) (tA (m:=m) n (cells.drop m) (by grind) fun i hi=>?_)
  grind [Nat.succ_mul,List.drop_drop]
section
variable {P:Program} {G:Cx} {V:B} {K:KP} {L:Own}
theorem sS {α:Type} {m:Nat} {R:α->List Y->Prop} {l:List α} {v:Y} (aq:H V K L) (h:bI K m R l v) (d:∀x vs,R x vs->bJ vs=true):
  ∃news,iF V m v=some (l.length,news)/\news.length=l.length*m/\bJ news=true/\∀(i:Nat) (x:α),l[i]? =some x->R x ((news.drop (i*m)).take m):=by
 rcases h with ⟨rfl,rfl⟩ | ⟨b,off,c,cells,e,ro,rfl,h2,E,h4,h5,h6⟩
 ·exact⟨[],Z,(Nat.zero_mul m).symm,Z,fun i x hx=>by simp at hx⟩
 have A:∀(i:Nat) (x:α),l[i]? =some x->R x ((((cells.drop off).take (l.length*m)).drop (i*m)).take m):=fun i x hx=>by
  have u:i<l.length:=(gA.1 hx).1;have hle:(i+1)*m<=l.length*m:=nM_ _ u
  grind [List.drop_take,List.drop_drop]
 have C:((cells.drop off).take (l.length*m)).length=l.length*m:=by grind
 refine⟨(cells.drop off).take (l.length*m),?_,C,tA l.length _ C fun i hi=>d _ _ (A i l[i]<|gC hi),A⟩;unfold iF;dsimp only;rw[aq.fX E]
 grind [bN,nE_,cV,di]
theorem Ci {α:Type} {m e:Nat} {R:α->List Y->Prop} {l2:List α} {v2:Y} {b d e1:Nat} {cells1:List Y} {c:nj} {ts:Array TypeId} {t:TypeId} (I:H V K ((b,.row cells1 e1 false)::L)) (hx:bI K m R l2 v2) (E:∀x vs,R x vs->bJ vs=true) (hn:l2.length<=1048576)
  (F:cells1.length=d*m) (aa:d<=1048576) (M:c= .known d∨(c= .upto m/\e1=e)) (ht:ts[0]? =some t) (hu:P.underlying t=some (.slice e)) (T:ql P e m=true) (h2:de P ts[1]? =true):
  ∃V' b' c' news e',eI P V ts (.slice b 0 d c) v2= .val (.slice b' 0 (d+l2.length) c') V'/\H V' K ((b',.row (cells1++news) e' false)::L)/\news.length=l2.length*m/\(∀(i:Nat) (x:α),l2[i]? =some x->R x ((news.drop (i*m)).take m))/\(c'= .known (d+l2.length)∨(c'= .upto m/\e'=e)):=by
 obtain⟨news,s1,X,s3,W⟩:=sS I hx E;unfold ql at T;split at T
 ·rename_i j hj;simp only[bA_] at T;obtain⟨a1,a2,a3,a4⟩:=T;have hm:j.size=m:=nB a1;subst hm;have hz:((P.info? e).any fun j=>(j.zero.bind nQ).any fun z=>(bZ z).any fun cs=>Nat.beq (cW cs) j.size)=true:=by rw[hj];exact a4
  have hb:=I.get 0 Z;unfold eI;rw[ht];dsimp only;rw[hu];dsimp only;rw[hj];dsimp only;rw[h2,a2,a3];simp only[Bool.and_self,cond_true];rw[s1];dsimp only;rw[hj] at hz;rw[s3,show Nat.ble l2.length 1048576=true by simp_all,hz];simp only[Bool.and_self,cond_true];have hle:Nat.ble (0+d*j.size) (cW cells1)=true:=by rw[nE_,bN,F];omega
  have A:takeN (dp cells1 0) (d*j.size)=cells1:=by grind [cV,di]
  have C:Nat.ble d 1048576=true:=by simp_all
  rcases M with rfl | ⟨rfl,rfl⟩
  ·dsimp only
   by_cases h0:l2.length=0
   ·have u:news= []:=eN_ (by simp_all);subst u;rw[h0,show Nat.ble (d+0) d=true by simp_all];simp only[cond_true];rw[hb];dsimp only;rw[show Nat.ble (0+d*j.size+cW []) (cW cells1)=true by rw[nE_,bN,bN,F];simp];simp only[cond_true];refine⟨_,b,.known d,[],e1,Z,?_,by simp,W,.inl Z⟩;rw[wB,List.append_nil];exact I.wz _
   have:Nat.ble (d+l2.length) d=false:=by
    grind [nE_]
   rw[this];simp only[cond_false];rw[hb];dsimp only;rw[hle,C,A,dv];simp only[Bool.and_self,cond_true];refine⟨_,_,_,news,e,Z,?_,X,W,.inr ⟨Z,Z⟩⟩;exact((I.alloc _).perm<|List.Perm.swap ..).pop
  dsimp only
  by_cases h0:l2.length=0
  ·have u:news= []:=eN_ (by simp_all);subst u;rw[h0];exact⟨_,b,.upto j.size,[],e1,Z,by simp_all,by simp,W,.inr ⟨Z,Z⟩⟩
  have:Nat.beq l2.length 0=false:=by
   grind [nB]
  rw[this,Nat.beq_refl,C];simp only[Bool.and_self,cond_true,cond_false];rw[hb];dsimp only
  have U:Nat.ble (0+d*j.size+cW news) (cW cells1)=false:=by
   cases hh:Nat.ble (0+d*j.size+cW news) (cW cells1) with
   | false=>rfl
   | true=>
    rw[nE_,bN,bN,F,X] at hh;have h1:1<=j.size:=by simp_all
    have:1<=l2.length*j.size:=Nat.mul_pos oM h1;omega
  rw[U,Bool.and_false];simp only[cond_false];rw[hle,Nat.beq_refl,A,dv];simp only[Bool.and_self,cond_true];exact⟨_,_,_,news,e1,Z,I.zD _,X,W,.inr ⟨Z,Z⟩⟩
 cases T
end
section
variable {P:Program} {G:Cx} {n:Nat} {t:D Y} {V:B} {K:KP} {L:Own} {Q:Ex->D Y->B->Prop} {ops:Array Oper} {o:Oper} {l:List Oper}
theorem kO {ev:Operand->Option Y} {cl:Call} {so xo:Operand} {s x:Y} {r:HR} (d:cl.callee= .builtin .append) (m:cl.args.toList= [so,xo]) (h1:ev so=some s) (u:ev xo=some x) (b:de P cl.argTypes[1]? =true) (h:eI P V cl.argTypes s x=r):dq P G ev V (.call cl)=r:=by
 refine gz (by simp[kindOf,d]) ?_
 have he:sm ev [so,xo]=some [s,x]:=by
  unfold sm bY;simp only[h1,u]
 simp only[eO,d,m,he,b,cond_true];exact h
theorem Bn {α:Type} {m e:Nat} {R:α->List Y->Prop} {l2:List α} {W:Y} {b d e1:Nat} {u:List Y} {c:nj} {ty:TypeId} {cl:Call} {so xo:Operand} {t':Y->D Y} (hs:H V K ((b,.row u e1 false)::L)) (hx:bI K m R l2 W) (A:∀x vs,R x vs->bJ vs=true) (hn:l2.length<=1048576)
  (F:u.length=d*m) (I:d<=1048576) (E:c= .known d∨(c= .upto m/\e1=e)) (hw:bu ops t o=some true) (ho:o.op= .call cl) (M:cl.callee= .builtin .append) (C:cl.args.toList= [so,xo]) (ht:cl.argTypes[0]? =some ty) (hu:P.underlying ty=some (.slice e)) (ha:ql P e m=true) (X:de P cl.argTypes[1]? =true)
  (T:aY G t so=some (.slice b 0 d c)) (U:aY G t xo=some W) (hp:∀v,dc t n o.dst v=some (t' v))
  (h:∀(V':B) (b':Nat) (c':nj) (news:List Y) (e':Nat),H V' K ((b',.row (u++news) e' false)::L)->news.length=l2.length*m->(∀(i:Nat) (x:α),l2[i]? =some x->R x ((news.drop (i*m)).take m))->(c'= .known (d+l2.length)∨(c'= .upto m/\e'=e))->bG P G ops n l (t' (.slice b' 0 (d+l2.length) c')) V' Q):bG P G ops n (o::l) t V Q:=by
 obtain⟨V',b',c',news,e',k1,k2,k3,k4,k5⟩:=Ci (P:=P) hs hx A hn F I E ht hu ha X;refine S hw ?_ (hp _)<|h V' b' c' news e' k2 k3 k4 k5;rw[ho];exact kO M C T U X k1
end
end Go.Ev
namespace Go.Ev
variable [Env]
section
variable {P:Program} {G:Cx} {n:Nat} {t:D Y} {V:B} {K:KP} {L:Own} {Q:Ex->D Y->B->Prop} {ops:Array Oper} {o:Oper} {l:List Oper}
end
theorem ig {g:XG} (h:cy g=0):g.threads.length<=4/\g.init.length<=6/\(∀l∈g.threads,l.length<=14)/\g.from_.length=g.threads.length/\g.order.length=g.init.length/\jP g g.threads g.from_ 0=true/\dZ g=true:=by
 unfold cy at h;cases h1:dV g with
 | true=>rw[h1] at h;cases h
 | false=>
  rw[h1] at h;simp only[cond_false] at h;cases b:bD (.ofNat g.from_.length) (.ofNat g.threads.length) with
  | false=>rw[b] at h;cases h
  | true=>
   rw[b] at h;simp only[cond_true] at h;cases d:bD (.ofNat g.order.length) (.ofNat g.init.length) with
   | false=>rw[d] at h;cases h
   | true=>
    rw[d] at h;simp only[cond_true] at h;cases h4:jP g g.threads g.from_ 0 with
    | false=>rw[h4] at h;cases h
    | true=>
     rw[h4] at h;simp only[cond_true] at h;cases h5:dZ g with
     | false=>rw[h5] at h;cases h
     | true=>
      unfold dV at h1;cases m:da 4 (.ofNat g.threads.length) with
      | true=>simp_all
      | false=>
       rw[m] at h1;simp only[cond_false] at h1;cases u:da 6 (.ofNat g.init.length) with
       | true=>simp_all
       | false=>
        rw[u] at h1;simp only[cond_false] at h1;refine⟨bx (a:=4) m,bx (a:=6) u,fun l hl=>?_,cQ b,cQ d,Z,Z⟩;have:=List.any_eq_false.1 h1 l hl;exact bx (a:=14) (by simpa using this)
theorem Lh {a b:Nat} (h:a+b<=9223372036854775807):wr .i64 (Int.add (.ofNat a) (.ofNat b))= .ofNat (a+b):=by
 show(bif Nat.ble (a+b) 9223372036854775807 then _ else _)=_
 grind [nE_]
def lR {α:Type} (ls:List (List α)):Nat:=(ls.map List.length).sum
def CV (g:XG):Nat:=bif bD (cy g) 0 then g.init.length+lR g.threads else 0
end Go.Ev
namespace Go.Ev
variable [Env]
theorem Lv {a:Int} (h:bD a 0=true):a=0:=by rw[cR] at h;simp_all
theorem Hy {g:XG} {th ix:Int} (h:(dR g ⟨th,ix⟩).isSome=true):∃t i:Nat,th= .ofNat t/\ix= .ofNat i/\t<=g.threads.length/\(t=0->i<g.init.length)/\∀m,t=m+1->∃l,g.threads[m]? =some l/\i<l.length:=by
 cases th with
 | negSucc t=>cases h
 | ofNat t=>cases ix with
  | negSucc i=>cases t<;>cases h
  | ofNat i=>
   refine⟨t,i,Z,Z,?_,?_,?_⟩
   ·cases t with
    | zero=>exact Nat.zero_le _
    | succ t=>
     have h:((g.threads[t]?).bind (·[i]?)).isSome=true:=h
     grind
   ·rintro rfl;have h:((g.init[i]?).map fun v=>(⟨2,i,1,0,v⟩:cq)).isSome=true:=h
    simp_all
   rintro m rfl;have h:((g.threads[m]?).bind (·[i]?)).isSome=true:=h
   grind
section
variable {V:B} {K K':KP} {L:Own}
theorem H.weaken (h:H V K' L) (hk:KP.le K K'):H V K L where
 kept b o hb:=h.kept b o (hk b o hb)
 own:=h.own
 ne:=h.ne
def KP.qR (K:KP) (M:Own):KP:=fun b o=>K b o∨(b,o)∈M
theorem KP.dQ (K:KP) (M:Own):KP.le K (K.qR M):=fun _ _ h=>.inl h
theorem KP.bS {M:Own} (k:Nat) {b:Nat} {o:bU} (h:M[k]? =some (b,o)):K.qR M b o:=.inr (gB_ h)
theorem H.keeps {M:Own} (h:H V K (M++L)):H V (K.qR M) L where
 kept b o hb:=by
  rcases hb with hb | hb
  ·exact h.gw.kept b o hb
  obtain⟨h1,d⟩:=h.own _ (List.mem_append_left _ hb);exact⟨h1,d,fun e he hh=>(List.pairwise_append.1 h.ne).2.2 _ hb e he hh.symm⟩
 own e he:=h.own e (List.mem_append_right _ he)
 ne:=(List.pairwise_append.1 h.ne).2.1
theorem fg {b e:Nat} {ro:Bool} {cells:List Y} (h:K b (.row cells e ro)):cX K (.ptr b 0) cells:=⟨b,0,cells,e,ro,Z,h,by omega,by simp⟩
end
section
variable {P:Program} {G:Cx} {K K':KP}
def tR (P:Program) (G:Cx) (K:KP) (n:Int) (vs:List Y):Prop:=
 ∃(f:Nat) (ca:List Y),vs= [.func f [] ca]/\pD P f=true/\∀(V:B) (L:Own),H V K L->aT P G f ca V fun v V'=>v= .int .i64 n/\H V' K L
def eG (P:Program) (G:Cx) (K:KP) (l:List Int) (cells:List Y):Prop:=l.length=cells.length/\∀(i:Nat) (x:Int),l[i]? =some x->∃c,cells[i]? =some c/\tR P G K x [c]
theorem eG.nil:eG P G K [] []:=⟨Z,fun i x h=>by simp at h⟩
theorem eG.cons {x:Int} {l:List Int} {c:Y} {cells:List Y} (h:tR P G K x [c]) (b:eG P G K l cells):eG P G K (x::l) (c::cells):=by
 refine⟨by simp[b.1],fun i y hy=>?_⟩;cases i with
 | zero=>simp_all
 | succ i=>exact b.2 i y (by simpa using hy)
theorem eG.slice {l:List Int} {cells:List Y} (h:eG P G K l cells) {b e n c:Nat} (hk:K b (.row cells e false)) (m:l.length=n) (d:n<=c) (hl:n<=9223372036854775807):bI K 1 (tR P G K) l (.slice b 0 n (.known c)):=by
 subst m;refine .inr ⟨b,0,_,cells,e,false,Z,.inr ⟨_,Z,d⟩,hk,by rw[h.1];omega,hl,fun i x hx=>?_⟩;obtain⟨c,d,u⟩:=h.2 i x hx
 have:(cells.drop (0+i*1)).take 1= [c]:=by
  obtain⟨aa,rfl⟩:=gA.1 d
  grind [List.drop_eq_getElem_cons]
 rw[this];exact u
theorem my {f:Nat} {args:List Y} {V:B} {M L:Own} {u:Y} (h:aT P G f args V fun v V'=>v=u/\H V' (K.qR M) L):aT P G f args V fun v V'=>v=u/\H V' K L:=
 h.mono fun _ _ ⟨a,b⟩=>⟨a,b.weaken<|K.dQ M⟩
theorem cM {ev:Operand->Option Y} {V:B} {t e:TypeId} {len m:Nat} {parts:Array (Nat×Operand)} {z cs:List Y} (d:P.underlying t=some (.slice e)) (hj:(P.info? e).map (·.size)=some m) (hz:(ew P e).bind bZ=some z)
  (hb:(Nat.beq (cW z) m && Nat.ble (len*m) 16777216 && Nat.ble 1 m)=true) (hf:iM (fun i=>some (i*m,m)) ev parts.toList (dK z len)=some cs):dq P G ev V (.buildSlice t len parts)= .val (.slice V.next 0 len (.known len)) (V.alloc (.row cs e false)):=by
 refine pA (mk:=.slice len len) Z ?_;obtain⟨j,b,rfl⟩:=oM_.1 hj;simp only[eF,d,b,hz,hb,cond_true,hf]
end
section
variable {P:Program} {G:Cx} {n:Nat} {t:D Y} {V:B} {K:KP} {L:Own} {Q:Ex->D Y->B->Prop} {ops:Array Oper} {o:Oper} {l:List Oper} {ix:Nat} {lp:List (Nat×List Nat)}
end
theorem cZ (k:IntKind) (n:Int):dH (.int k n) (.int k n)=true:=by
 unfold Go.Ev.dH;exact gj k n
theorem bI.dH {α:Type} {K:KP} {m:Nat} {R:α->List Y->Prop} {l:List α} {v:Y} (h:bI K m R l v):Go.Ev.dH v v=true:=by
 have hb:=h.na;rcases h with ⟨_,rfl⟩ | ⟨b,off,c,cells,e,ro,rfl,hc,_⟩<;>exact hb
def eh (x y:Int):Int:=bif da x y then-1 else bif da y x then 1 else 0
def Ae:List Int->Int
 | []=>0
 | x::l=>bif bD x 0 then Ae l else x
def dz {α:Type} (c:α->α->Int):List α->List α->Int
 | [],[]=>0
 | [],_::_=>-1
 | _::_,[]=>1
 | x::l,y::m=>bif bD (c x y) 0 then dz c l m else c x y
theorem LK (n:Int):(bif bD n n then false else true)=false:=by rw[cR];simp
theorem lW {α:Type} {c:α->α->Int}:∀{l m:List α} {i:Nat} {x:α},l[i]? =some x->m.length<=i->dz c (l.drop i) (m.drop i)=1:=by
 intro l m i x h hm;rw[cD h,eZ hm];rfl
theorem lV {α:Type} {c:α->α->Int} {l m:List α} {i:Nat} (h:l.length<=i) (hm:i<=l.length) (hl:l.length<m.length):dz c (l.drop i) (m.drop i)= -1:=by
 obtain⟨y,hy⟩:=cF (show i<m.length by omega);rw[eZ h,cD hy];rfl
theorem nv {α:Type} {c:α->α->Int} {l m:List α} {i:Nat} (h:l.length<=i) (hl:m.length<=l.length):dz c (l.drop i) (m.drop i)=0:=by
 rw[eZ h,eZ oM];rfl
theorem lX {α:Type} {c:α->α->Int} {l m:List α} {i:Nat} {x y:α} (hx:l[i]? =some x) (hy:m[i]? =some y) (h:bD (c x y) 0=true):dz c (l.drop i) (m.drop i)=dz c (l.drop (i+1)) (m.drop (i+1)):=by
 rw[cD hx,cD hy];show(bif bD (c x y) 0 then _ else _)=_;rw[h];rfl
theorem lY {α:Type} {c:α->α->Int} {l m:List α} {i:Nat} {x y:α} (hx:l[i]? =some x) (hy:m[i]? =some y) (h:bD (c x y) 0=false):dz c (l.drop i) (m.drop i)=c x y:=by
 rw[cD hx,cD hy];show(bif bD (c x y) 0 then _ else _)=_;rw[h];rfl
def gF {α:Type} (a b:List α):Int:=eh (.ofNat a.length) (.ofNat b.length)
def nu (a b:cm):Int:=Ae [eh a.bX b.bX,eh a.index b.index]
def mU (a b:cq):Int:=Ae [eh a.kind b.kind,eh a.loc b.loc,eh a.order b.order,eh a.read b.read,eh a.write b.write]
def gE (a b:List cm):Int:=Ae [gF a b,dz nu a b]
def dD (a b:XG):Int:=Ae [gF a.threads b.threads,dz gF a.threads b.threads,dz (dz mU) a.threads b.threads,gF a.from_ b.from_,dz gE a.from_ b.from_,gF a.order b.order,dz gE a.order b.order,gF a.init b.init,dz eh a.init b.init]
def dP {α:Type} (m E:Nat) (R:α->List Y->Prop) (l:List α) (u:Y) (M:Own):Prop:=
 (l= []/\u= .aB/\M= [])∨∃(b:Nat) (c:nj) (cells:List Y) (e:Nat),u= .slice b 0 l.length c/\M= [(b,.row cells e false)]/\cells.length=l.length*m/\(∀(i:Nat) (x:α),l[i]? =some x->R x ((cells.drop (i*m)).take m))/\(c= .known l.length∨(c= .upto m/\e=E))/\l.length<=1048576
inductive gb {α:Type} (m E:Nat) (R:α->List Y->Prop):List (List α)->List Y->Own->Prop
 | nil:gb m E R [] [] []
 | snoc {ls:List (List α)} {us:List Y} {M M1:Own} {l:List α} {u:Y}:gb m E R ls us M->dP m E R l u M1->gb m E R (ls++[l]) (us++[u]) (M1++M)
section
variable {α:Type} {m E:Nat} {R:α->List Y->Prop} {l:List α} {u:Y} {M:Own} {K:KP} {ls:List (List α)} {us:List Y}
theorem dP.leaf (h:dP m E R l u M):bZ u=some [u]/\gn u=true:=by
 rcases h with ⟨_,rfl,_⟩ | ⟨b,c,cells,e,rfl,_⟩<;>exact⟨rfl,rfl⟩
theorem dP.lJ (h:dP m E R l u M) (hk:∀e∈M,K e.1 e.2):bI K m R l u:=by
 rcases h with ⟨h1,d,_⟩ | ⟨b,c,cells,e,rfl,rfl,h3,h4,h5,h6⟩
 ·exact .inl ⟨h1,d⟩
 refine .inr ⟨b,0,c,cells,e,false,Z,?_,hk _<|mS_ ..,by omega,by omega,fun i x hx=>by simp_all⟩;rcases h5 with h5 | h5
 ·exact .inr ⟨_,h5,nR_ _⟩
 exact .inl h5.1
theorem gb.length (h:gb m E R ls us M):us.length=ls.length:=by
 induction h with
 | nil=>rfl
 | snoc _ _ ih=>simp[ih]
theorem gb.at (h:gb m E R ls us M):∀{i:Nat} {l:List α},ls[i]? =some l->∃u M1 A B_,us[i]? =some u/\dP m E R l u M1/\M=A++(M1++B_)/\∀l' u' d,dP m E R l' u' d->gb m E R (ls.set i l') (us.set i u') (A++(d++B_)):=by
 induction h with
 | nil=>simp_all
 | @snoc ls us M M1 l u h h1 ih=>
  intro i x hx;have hl:=h.length
  by_cases hi:i<ls.length
  ·rw[gL_ hi] at hx;obtain⟨C,F,A,B_,k1,I,rfl,T⟩:=ih hx;refine⟨C,F,M1++A,B_,by grind,I,by simp,fun l' u' M' h'=>?_⟩;rw[List.set_append_left _ _ hi,List.set_append_left _ _ oM,lQ_];exact .snoc (T l' u' M' h') h1
  have hlt:=(gA.1 hx).1;rw[lA_,List.length_singleton] at hlt;obtain rfl:i=ls.length:=by omega
  rw[gR_<|nR_ _,Nat.sub_self] at hx;simp only[List.getElem?_cons_zero,oJ_] at hx;subst hx;refine⟨u,M1,[],M,by simp_all,h1,Z,fun l' u' M' h'=>?_⟩;rw[List.set_append_right _ _<|nR_ _,List.set_append_right _ _ oM,hl,Nat.sub_self];exact gb.snoc (M1:=M') (M:=M) h h'
theorem gb.each (h:gb m E R ls us M) (hk:∀e∈M,K e.1 e.2):∀(i:Nat) (l:List α),ls[i]? =some l->∃u,us[i]? =some u/\bI K m R l u:=by
 intro i l hl;obtain⟨u,M1,A,B_,h1,d,rfl,_⟩:=h.at hl;exact⟨u,h1,d.lJ fun e he=>hk e (by simp[he])⟩
theorem gb.lJ (h:gb m E R ls us M) (hk:∀e∈M,K e.1 e.2) {b e n:Nat} (hb:K b (.row us e false)) (d:n=ls.length) (hl:ls.length<=1048576):bI K 1 (RL K m R) ls (.slice b 0 n (.known n)):=by
 subst d;refine .inr ⟨b,0,_,us,e,false,Z,.inr ⟨_,Z,nR_ _⟩,hb,by rw[h.length];omega,by omega,fun i x hx=>?_⟩;obtain⟨u,h1,A⟩:=h.each hk i x hx;refine⟨u,?_,A⟩;obtain⟨aa,rfl⟩:=gA.1 h1
 grind [List.drop_eq_getElem_cons]
end
section
variable {V:B} {K:KP} {L M:Own} {b:Nat} {o:bU}
theorem H.MR (h:H V K (M++(b,o)::L)) (o':bU):H (V.setObj b o') K (M++(b,o')::L):=((h.perm List.perm_middle).wz o').perm List.perm_middle.symm
theorem jf (v:Y):∀n,dK [v] n=List.replicate n v
 | 0=>rfl
 | n+1=>by
  show fD [v] (dK [v] n)=_;rw[dv,jf v n];rfl
end
section
variable {P:Program} {G:Cx} {ev:Operand->Option Y} {V:B}
theorem ux {t e w n:Nat} {k k':IntKind} {z:List Y} {lo co:Operand} (A:P.underlying t=some (.slice e)) (hw:(P.info? e).map (·.bytes)=some w) (hz:(ew P e).bind bZ=some z)
  (d:((P.info? e).any fun j=>Nat.beq (cW z) j.size && Nat.ble 1 j.size)=true) (hl:ev lo=some (.int k (.ofNat n))) (C:ev co=some (.int k' (.ofNat n))) (hn:w*n<=1048576) (aa:n<=1048576):
  dq P G ev V (.makeSlice t lo co)= .val (.slice V.next 0 n (.known n)) (V.alloc (.row (dK z n) e false)):=by
 refine pA (mk:=.slice n n) Z ?_;obtain⟨j,hj,rfl⟩:=oM_.1 hw;rw[hj] at d;simp only[Option.any_some,bA_] at d;simp only[eF,A,hl,C,hj,hz];rw[d.1,d.2,show Nat.ble n n=true by simp_all,show Nat.ble (j.bytes*n) 1048576=true by simp_all,show Nat.ble n 1048576=true by simp_all];rfl
end
theorem dG.leaf:∀x vs,dG x vs->bJ vs=true:=fun _ _ h=>by cases h;rfl
theorem qQ.leaf:∀x vs,qQ x vs->bJ vs=true:=fun _ _ h=>by cases h;rfl
theorem nh.leaf:∀x vs,nh x vs->bJ vs=true:=fun _ _ h=>by cases h;rfl
end Go.Ev
namespace Go.Ev
variable [Env]
inductive kb (b:Nat) (o':bU):Own->Own->Prop
 | here {o:bU} {L:Own}:kb b o' ((b,o)::L) ((b,o')::L)
 | there {x:Nat×bU} {L L':Own}:kb b o' L L'->kb b o' (x::L) (x::L')
 | pJ {M L L':Own}:kb b o' L L'->kb b o' (M++L) (M++L')
section
variable {V:B} {K:KP} {L L':Own} {b:Nat} {o':bU}
theorem kb.QO (h:kb b o' L L'):∃A B_ o,L=A++(b,o)::B_/\L'=A++(b,o')::B_:=by
 induction h with
 | here=>exact⟨[],_,_,Z,Z⟩
 | @there x L L' h ih=>grind
 | @pJ M L L' h ih=>grind
theorem H.P3 (h:H V K L) (hu:kb b o' L L'):H (V.setObj b o') K L':=by
 obtain⟨A,B_,o,rfl,rfl⟩:=hu.QO;exact h.MR o'
theorem H.sub (h:H V K L) (d:L'.Sublist L):H V K L' where
 kept b o hb:=let ⟨h1,A,C⟩:=h.kept b o hb;⟨h1,A,fun e he=>C e (d.subset he)⟩
 own e he:=h.own e (d.subset he)
 ne:=h.ne.sublist d
theorem ph {M L L':Own} (h:L'.Sublist L):(M++L').Sublist (M++L):=(List.append_sublist_append_left M).2 h
end
section
variable {P:Program} {G:Cx} {n:Nat} {t:D Y} {V:B} {K:KP} {L:Own} {Q:Ex->D Y->B->Prop} {ops:Array Oper} {o:Oper} {l:List Oper} {i:Nat} {rc:List Nat} {lp:List (Nat×List Nat)}
theorem ja {b:Nat} {ob':bU} {L':Own} {t':D Y} (d:H V K L) (hu:kb b ob' L L') (hw:bu ops t o=some true) (hv:dq P G (aY G t) V o.op= .skip (V.setObj b ob')) (hp:dc t n o.dst unit=some t')
  (h:∀V',H V' K L'->bG P G ops n l t' V' Q):bG P G ops n (o::l) t V Q:=mC hw hv hp (h _<|d.P3 hu)
theorem qI {b:Nat} {ob':bU} {L':Own} {t':D Y} (A:H V K L) (hu:kb b ob' L L') (d:ops[i]? =some o) (hw:bu ops t o=some true) (hv:dq P G (aY G t) V o.op= .skip (V.setObj b ob')) (hp:dc t n o.dst unit=some t')
  (h:∀V',H V' K L'->(cY P G ops t' V' rc=true/\cu P G ops n lp t' V' Q)):cu P G ops n ((i,rc)::lp) t V Q:=re d hw hv hp (h _<|A.P3 hu)
end
section
variable {P:Program} {t:D Y} {V:B}
theorem xh {fn:Func} {j ty b m e:Nat} {ro:Bool} {cells:List Y} (A:fn.results.toList= [.cell j ty]) (h1:t.get j=some (.ptr b 0)) (hm:V.m.get b=some (.row cells e ro)) (C:du P ty=some (some m)) (d:cells.length=m):dB P fn t V=some (.agg cells):=by
 unfold dB;rw[A]
 have e1:eJ P t V (.cell j ty)=some (Y.agg cells):=by
  show(match t.get (posOf j) with
   | some (.ptr b off)=>match V.m.get b with
    | some (.row cells _ _)=>match du P ty with
     | some (some n)=>bif Nat.ble (off+n) (cW cells) then some (Y.agg<|takeN (dp cells off) n) else none
     | some none=>nth cells off
     | none=>none
    | _=>none
   | _=>none)=_
  rw[show t.get (posOf j)=some (.ptr b 0) from h1];dsimp only;rw[hm];dsimp only;rw[C];dsimp only;rw[bN,d,nA_,show Nat.ble m m=true by simp_all,cV,di,List.drop_zero,<-d,List.take_length];rfl
 have:bY (eJ P t V) [.cell j ty]=some [Y.agg cells]:=by
  unfold bY;simp only[e1]
 rw[this]
end
end Go.Ev
namespace Go.Ev
variable [Env]
theorem Iy {α:Type} {m E:Nat} {R:α->List Y->Prop} {l1 l2:List α} {d news:List Y} {b e:Nat} {c:nj} {n:Nat} (aa:d.length=l1.length*m) (h1:∀(i:Nat) (x:α),l1[i]? =some x->R x ((d.drop (i*m)).take m)) (ab:news.length=l2.length*m) (h2:∀(i:Nat) (x:α),l2[i]? =some x->R x ((news.drop (i*m)).take m))
  (A:n=l1.length+l2.length) (hc:c= .known n∨(c= .upto m/\e=E)) (hle:n<=1048576):dP m E R (l1++l2) (.slice b 0 n c) [(b,.row (d++news) e false)]:=by
 subst A;refine .inr ⟨b,c,_,e,by simp_all,Z,by grind,fun i x hx=>?_,by simp_all,by simp_all⟩
 by_cases hi:i<l1.length
 ·rw[gL_ hi] at hx;have hle:(i+1)*m<=l1.length*m:=nM_ _ hi
  grind
 grind [nM_,List.drop_append,List.drop_eq_nil_of_le,Nat.sub_mul]
def dL (g:XG) (loc:Int):List cm:=
 bif bD (cy g) 0 then(bif da loc 0 then [] else match g.order[loc.toNat]? with | some l=>⟨0,loc⟩::l | none=>[]) else []
theorem Ac {g:XG} {loc:Int} (h:bD (cy g) 0=false):dL g loc= []:=by unfold dL;rw[h];rfl
theorem Ch {g:XG} {loc:Int} (h:da loc 0=true):dL g loc= []:=by unfold dL;simp_all
theorem Cg {g:XG} {loc:Nat} (h:g.order.length<=loc):dL g (.ofNat loc)= []:=by
 unfold dL
 simp_all
theorem fT {g:XG} {loc:Nat} {l:List cm} (hc:bD (cy g) 0=true) (h:g.order[loc]? =some l):dL g (.ofNat loc)=⟨0,.ofNat loc⟩::l:=by
 have e:(Int.ofNat loc).toNat=loc:=rfl;have e2:da (.ofNat loc) 0=false:=by rw[show(0:Int)= .ofNat 0 from Z,iw];simp
 unfold dL
 simp_all
end Go.Ev
namespace Go.Ev
variable [Env]
theorem oq {P:Program} {G:Cx} {ev:Operand->Option Y} {V:B} {c:Call} {x y:Operand} {a b:Int} {k:IntKind} (d:c.callee= .builtin .min) (A:c.args.toList= [x,y]) (hx:ev x=some (.int k a)) (hy:ev y=some (.int k b)):dq P G ev V (.call c)= .val (.int k (bif da b a then b else a)) V:=by
 refine bK (by simp[kindOf,d]) ?_;have e:rZ k k=true:=by cases k<;>rfl
 simp only[cS,d,A,hx,hy,Mu,e,cond_true]
end Go.Ev
end
