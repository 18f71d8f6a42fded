/- Part of the proof: an evaluator of the model's code, rules for walks on it, walks. Without conditions. -/
import Derived.Test.YtpomgjnfncgkgaaGreatDoorEa
import Derived.RangeFuncNested
import Derived.RecoverIn
import Derived.TacticsIn
import Derived.OrdersIn
import Derived.Sort.LoopGhostIn
import Derived.Scope
import Derived.ProofKit
import Derived.LaidSub
import Derived.KernelRfl
set_option linter.unusedSectionVars false
set_option linter.unusedVariables false
set_option linter.unusedSimpArgs false
noncomputable section
namespace Go.Ev
variable [Env]
def oO:Option Nat->Fence
 | none=>Fence.wide
 | some l=>Fence.wide.inRound l
theorem qJ (rl:Option Nat) (f:FuncId):(oO rl).fn f:=by cases rl<;>trivial
theorem DF (rl:Option Nat):(oO rl).depth=none:=by cases rl<;>rfl
theorem yM (rl:Option Nat) (m:Nat):(oO rl).depth.isSome=true->1<=m:=by rw[DF];intro h;cases h
theorem sc {m:Nat} {P:Program} {f:FuncId} {args:Array Value} {w:World} {R:Ending->World->Prop} (rl:Option Nat) (h:CallsIn Fence.wide m P f args w R):CallsIn (oO rl) m P f args w R:=by
 cases rl with
 | none=>exact h
 | some l=>exact h.inRound l
def DR (S:dh):List DE->List Deferred->Prop
 | [],ds=>ds= []
 | .mark b::d,ds=>∃l r,S b=some l/\ds= {target:=.collected l.dE,args:= #[]}::r/\DR S d r
 | .call f args ca::d,ds=>∃(xs cs:Array Value) (r:List Deferred),ds= {target:=.fn (.func f) cs,args:=xs}::r/\dp S args xs.toList/\dp S ca cs.toList/\DR S d r
theorem DR.mono {S S':dh} (h:S.le S'):∀{d:List DE} {ds:List Deferred},DR S d ds->DR S' d ds
 | [],ds,u=>u
 | .mark b::d,ds,u=>let ⟨l,r,h1,h2,z⟩:=u;⟨l,r,h _ _ h1,h2,DR.mono h z⟩
 | .call f args ca::d,ds,u=>let ⟨xs,cs,r,h1,h2,z,h4⟩:=u;⟨xs,cs,r,h1,dp.mono h _ _ h2,dp.mono h _ _ z,DR.mono h h4⟩
def P8 (S:dh):Ex->Exit->Prop
 | .mO v,E=>∃x,E= .panic [{v:=x,recovered:=false}]/\H S v x
 | .normal,E=>E= .normal
 | .exit i,E=>E= .exit i
 | .goto i,E=>E= .goto i
 | .ret,E=>E= .ret
def Qx (Q:Exit->Act->World->Prop) (S:dh) (e:Ex) (a:Act) (w:World):Prop:=∀E,P8 S e E->Q E a w
def NR (S:dh):KR->Ending->Prop
 | .ret v _,e=>∃x,e= .returned x/\H S v x
 | .mO v _,e=>∃x,e= .panicked [{v:=x,recovered:=false}]/\H S v x
 | .err _,_=>False
def KR.heap:KR->D
 | .ret _ U=>U
 | .mO _ U=>U
 | .err _=>⟨0,.leaf⟩
def RO (S:dh):Option Pos->Option Nat->Prop
 | none,none=>True
 | some b,some l=>∃loc,S b=some loc/\loc.dE=l
 | _,_=>False
theorem RO.mono {S S':dh} (h:S.le S'):∀{ro:Option Pos} {rl:Option Nat},RO S ro rl->RO S' ro rl
 | none,none,_=>trivial
 | some _,some _,⟨loc,h1,h2⟩=>⟨loc,h _ _ h1,h2⟩
def GR (S:dh) (G:Cx):Prop:=∀g,g<G.gl->∃c,S (posOf g)=some ⟨g,0,c⟩
theorem GR.mono {S S':dh} {G:Cx} (h:S.le S') (z:GR S G):GR S' G:=fun g u=>let ⟨c,hc⟩:=z g u;⟨c,h _ _ hc⟩
structure kr (w w':World):Prop where
 os:w'.os=w.os
 out:w'.output=w.output
 tape:w'.tape=w.tape
 size:w.heap.size<=w'.heap.size
 same:∀r:Nat,r<w.heap.size->w'.heap[r]?=w.heap[r]?
def lB (w:World) (x:Nat×List V):Prop:=∃c e fr,w.heap[x.1]?=some (.cells c e fr)/\x.2.length<=c.size/\∀(i:Nat) (v:V),x.2[i]?=some v->∃y,c[i]?=some y/\H (fun _=>none) v y
def EO (P:Program) (gl:Nat) (laid:List (Nat×List V)) (f:Nat) (args:List V) (v:V):Prop:=
 ∀(w:World) (xs:Array Value),gl<=w.heap.size->HG w->(∀x∈laid,lB w x)->dp (fun _=>none) args xs.toList->Calls P f xs w fun e w'=>∃x,e= .returned x/\H (fun _=>none) v x/\kr w w'
structure AQ (P:Program) (G:Cx):Prop where
 ov:∀g,G.ov g=true->rR P g
 HD:∀f args v,G.HD f args=some v->EO P G.gl G.laid f args v
 mem:∀e∈G.mem,True
 HB:∀f args U v,G.HB f args U=some v->∀(S:dh) (w:World) (xs:Array Value),Inv S U w->dp S args xs.toList->Calls P f xs w fun e w'=>∃x S',e= .returned x/\H S' v x/\Inv S' U w'/\eY S U w S' U w'
structure Sound (P:Program) (G:Cx) (ih:lf):Prop where
 cx:AQ P G
 run:∀(c:Code) (t:N V) (n:Nat) (d:List DE) (ro:Option Pos) (U:D) (e:Ex) (t':N V) (d':List DE) (U':D),ih c t n d ro U= .ok e t' d' U'->
  ∀(S:dh) (w:World) (a:Act) (rl:Option Nat) (m:Nat) (Q:Exit->Act->World->Prop),Inv S U w->GR S G->TR S t n a.tmps->DR S d a.defers->RO S ro rl->
   (∀(S':dh) (w':World) (a':Act),Inv S' U' w'->eY S U w S' U' w'->TR S' t' n a'.tmps->DR S' d' a'.defers->Qx Q S' e a' w')->c.wpIn (oO rl) m P Q a w
section
variable {P:Program} {G:Cx} {S:dh} {U:D} {w:World}
theorem TR.set {t:N V} {n k:Nat} {tmps:Array Value} {v:V} {x:Value} (h:TR S t n tmps) (hk:k<n) (hv:H S v x):TR S (t.put (some v)<|posOf k) n (tmps.setIfInBounds k x):=by
 refine⟨by simpa using h.1,fun j u hu=>?_⟩
 by_cases e:j=k
 ·subst e;rw[N.dA] at hu;cases hu;refine⟨hk,?_⟩;have:j<tmps.size:=by rw[h.1];exact hk
  simpa [Array.getD_eq_getD_getElem?,this] using hv
 rw[N.dv _ _ _ _ (fun h'=>e (qW h'))] at hu;obtain⟨h1,h2⟩:=h.2 j u hu;refine⟨h1,?_⟩
 have:(tmps.setIfInBounds k x).getD j undef=tmps.getD j undef:=by
  simp only[Array.getD_eq_getD_getElem?,Array.getElem?_setIfInBounds];rw[if_neg (fun h'=>e h'.symm)]
 rw[this];exact h2
theorem ua {t t':N V} {n k:Nat} {v:V} (h:dI t n (some k) v=some t'):k<n/\t'=t.put (some v) (posOf k):=by
 unfold dI at h;simp only[bA] at h;split at h
 ·rename_i hk;cases h;exact⟨Nat.le_of_ble_eq_true hk,Z⟩
 cases h
theorem TR.put {t t':N V} {n:Nat} {a:Act} {dst:Option Tmp} {v:V} {x:Value} (h:TR S t n a.tmps) (hp:dI t n dst v=some t') (hv:H S v x):TR S t' n (a.put dst x).tmps:=by
 cases dst with
 | none=>cases hp;exact h
 | some k=>
  obtain⟨hk,rfl⟩:=ua hp;exact h.set hk hv
theorem put_defers (a:Act) (dst:Option Tmp) (x:Value):(a.put dst x).defers=a.defers:=by cases dst<;>rfl
theorem vn:H S unit undef:=by simp only[unit,H];exact⟨_,Z,dp.nil⟩
theorem kF {t:N V} {n:Nat} {a:Act} {x:Operand} {v:V} (z:GR S G) (A:TR S t n a.tmps) (h:bE G t x=some v):H S v (a.eval x):=by
 cases x with
 | tmp k=>exact(A.2 k v h).2
 | const c=>exact qc h
 | global g=>
  simp only[bE,bA] at h;split at h
  ·rename_i u;cases h;obtain⟨c,hc⟩:=z g (Nat.le_of_ble_eq_true u);simp only[H];exact⟨_,hc,by simp[Act.eval]⟩
  cases h
 | func f=>
  cases h;simp only[H];exact⟨_,_,Z,dp.nil,dp.nil⟩
theorem LW {t:N V} {n:Nat} {a:Act} (op:Op) (u:GR S G) (z:TR S t n a.tmps):ER S (bE G t) a.eval op:=fun _ _ _ hv=>kF u z hv
theorem zn {ops:Array Oper} {t:N V} {o:Oper} {b:Bool} {tmps:Array Value} (h:bM ops t o=some b)
  (E:∀j want k,o.guard=some (j,want)->(ops[j]?).bind (·.dst)=some k->∀v,t.get (posOf k)=some v->k<tmps.size/\H S v (tmps.getD k undef)):
  Region.wanted o (yielded ops tmps)=b:=by
 unfold bM at h;unfold Region.wanted;cases A:o.guard with
 | none=>rw[A] at h;cases h;rfl
 | some jw=>
  obtain⟨j,want⟩:=jw;rw[A] at h;dsimp only at h⊢;cases hk:(ops[j]?).bind (·.dst) with
  | none=>
   rw[hk] at h;cases h;simp[yielded,hk]
  | some k=>
   rw[hk] at h;dsimp only at h;cases hv:t.get (posOf k) with
   | none=>rw[hv] at h;cases h
   | some v=>
    rw[hv] at h;obtain⟨C,z⟩:=E j want k A hk v hv
    have u:tmps[k]?=some (tmps.getD k undef):=by
     rw[Array.getD_eq_getD_getElem?,aG_ C];rfl
    generalize tmps.getD k undef=x at z u;cases v with
    | bool c=>
     simp only[H] at z;subst z;simp only[yielded,hk,Option.bind_some,u];cases h;cases c<;>cases want<;>rfl
    | tuple cs=>
     simp only[H] at z;obtain⟨y,rfl,_⟩:=z;cases h;simp[yielded,hk,u]
    | _=>cases h
theorem AI {ops:Array Oper} {t:N V} {o:Oper} {b:Bool} {n:Nat} {tmps:Array Value} (h:bM ops t o=some b) (u:TR S t n tmps):Region.wanted o (yielded ops tmps)=b:=
 zn h fun _ _ k _ _ v hv=>⟨by rw[u.1];exact(u.2 k v hv).1,(u.2 k v hv).2⟩
theorem Df {n:Nat} {args:List V} {xs:Array Value} {t:N V} (h:ry n args=some t) (hv:dp S args xs.toList):TR S t n (xs++Array.replicate (n-xs.size) undef):=by
 have key:∀(args:List V) (ys:List Value) (k:Nat) (t t':N V),(List.rec (motive:=fun _=>Nat->N V->Option (N V)) (fun _ t=>some t) (fun v _ ih k t=>match dI t n (some k) v with | some t'=>ih (Nat.succ k) t' | none=>none) args:Nat->N V->Option (N V)) k t=some t'->
   dp S args ys->(∀j v,t.get (posOf j)=some v->j<k/\j<n)->
   (∀j v,t'.get (posOf j)=some v->j<n/\((j<k/\t.get (posOf j)=some v)∨∃y,k<=j/\ys[j-k]?=some y/\H S v y))/\(args= []∨k+args.length<=n):=by
  intro args;induction args with
  | nil=>
   intro ys k t t' h hv z;have h':some t=some t':=h;cases h';exact⟨fun j v hj=>⟨(z j v hj).2,.inl ⟨(z j v hj).1,hj⟩⟩,.inl Z⟩
  | cons v args ih=>
   intro ys k t t' h hv z;obtain⟨x,r,rfl,h1,h2⟩:=hv.cons_inv;dsimp only at h;cases hp:dI t n (some k) v with
   | none=>rw[hp] at h;cases h
   | some t₁=>
    rw[hp] at h;obtain⟨hk,rfl⟩:=ua hp
    obtain⟨g1,g2⟩:=ih r (k+1) _ t' h h2 (fun j u hj=>by
     by_cases e:j=k
     ·subst e;exact⟨by omega,hk⟩
     rw[N.dv _ _ _ _ (fun h'=>e (qW h'))] at hj;have:=z j u hj;exact⟨by omega,this.2⟩)
    refine⟨fun j u hj=>?_,.inr ?_⟩
    ·obtain⟨q1,q2⟩:=g1 j u hj;refine⟨q1,?_⟩;rcases q2 with ⟨C,A⟩ | ⟨y,hle,hy,E⟩
     ·by_cases e:j=k
      ·subst e;rw[N.dA] at A;cases A;exact .inr ⟨x,nR_ _,by simp,h1⟩
      rw[N.dv _ _ _ _ (fun h'=>e (qW h'))] at A;exact .inl ⟨by omega,A⟩
     refine .inr ⟨y,by omega,?_,E⟩;have:j-k=(j-(k+1))+1:=by omega
     rw[this];simpa using hy
    rcases g2 with rfl | g2
    ·simp;omega
    simp;omega
 obtain⟨g1,g2⟩:=key args xs.toList 0 .leaf t h hv (fun j v hj=>by rw[N.mE] at hj;cases hj);have hlen:=hv.length
 have hle:xs.size<=n:=by
  rcases g2 with rfl | g2
  ·simp at hlen;rw[hlen];simp
  simp at hlen;omega
 refine⟨by simp;omega,fun j v hj=>?_⟩;obtain⟨q1,q2⟩:=g1 j v hj;refine⟨q1,?_⟩;rcases q2 with ⟨C,_⟩ | ⟨y,_,hy,E⟩
 ·omega
 rw[Nat.sub_zero] at hy;have F:j<xs.size:=by simpa using (gA.1 hy).1
 have:(xs++Array.replicate (n-xs.size) undef).getD j undef=y:=by
  rw[Array.getD_eq_getD_getElem?,Array.getElem?_append_left F,<-aT_,hy];rfl
 rw[this];exact E
def Jt (tmps:Array Value):ResultVar->Sem Value
 | .tmp t=>pure (tmps.getD t undef)
 | .cell a t=>do loadVar t (<-asAddr (tmps.getD a undef))
theorem ss (fn:Func) (tmps:Array Value):results fn tmps=(fn.results.mapM (Jt tmps)>>= fun vs=>pure (if h:vs.size=1 then vs[0] else .tuple vs)):=rfl
theorem Ak (hi:Inv S U w) {t:N V} {n:Nat} {tmps:Array Value} (C:TR S t n tmps) {r:ResultVar} {v:V} (h:g9 P t U r=some v):
  ∃x,(Jt tmps r).run P w= .ok x w/\H S v x:=by
 cases r with
 | tmp k=>exact⟨_,Z,(C.2 k v h).2⟩
 | cell k ty=>
  simp only[g9] at h;cases hk:t.get (posOf k) with
  | none=>rw[hk] at h;cases h
  | some u=>
   rw[hk] at h;have hvx:=(C.2 k u hk).2;cases u with
   | ptr b off=>
    dsimp only at h;cases z:U.m.get b with
    | none=>rw[z] at h;cases h
    | some ob=>
     rw[z] at h;cases ob with
     | row cells e ro=>
      simp only[H] at hvx;obtain⟨l,hl,A⟩:=hvx;obtain⟨y,hy,E⟩:=nE (P:=P) hi z hl h;refine⟨y,?_,E⟩;simp[Jt,A,asAddr,hy]
     | _=>cases h
   | _=>cases h
theorem ql (hi:Inv S U w) {t:N V} {n:Nat} {tmps:Array Value} (A:TR S t n tmps):∀{rs:List ResultVar} {vs:List V},cW (g9 P t U) rs=some vs->
  ∃xs:List Value,(rs.mapM (Jt tmps):Sem (List Value)).run P w= .ok xs w/\dp S vs xs
 | [],vs,h=>by rw[iK] at h;cases h;exact⟨[],by simp,dp.nil⟩
 | r::rs,vs,h=>by
  obtain⟨y,r',h1,h2,rfl⟩:=gX h;obtain⟨x,hx,hv⟩:=Ak (P:=P) hi A h1;obtain⟨xs,u,z⟩:=ql hi A h2;refine⟨x::xs,?_,dp.cons hv z⟩;simp only[List.mapM_cons,sB_,hx,rA,u,sP_]
theorem yh (hi:Inv S U w) {fn:Func} {t:N V} {n:Nat} {tmps:Array Value} (A:TR S t n tmps) {v:V} (h:fm P fn t U=some v):
  ∃x,(results fn tmps).run P w= .ok x w/\H S v x:=by
 unfold fm at h;cases z:cW (g9 P t U) fn.results.toList with
 | none=>rw[z] at h;cases h
 | some vs=>
  rw[z] at h;obtain⟨xs,hx,hv⟩:=ql (P:=P) hi A z
  have hm:(fn.results.mapM (Jt tmps):Sem (Array Value)).run P w= .ok xs.toArray w:=by
   rw[Array.mapM_eq_mapM_toList];simp only[Sem.run_map,hx,rA]
  cases vs with
  | nil=>
   cases h;have:=hv.eQ;subst this;refine⟨.tuple #[],by rw[ss,sB_,hm];rfl,by simp only[H];exact⟨_,Z,dp.nil⟩⟩
  | cons u us=>
   obtain⟨x,r,rfl,h1,h2⟩:=hv.cons_inv;cases us with
   | nil=>
    cases h;have:=h2.eQ;subst this;exact⟨x,by rw[ss,sB_,hm];rfl,h1⟩
   | cons u' us=>
    cases h;obtain⟨x',r',rfl,h3,h4⟩:=h2.cons_inv;refine⟨.tuple (x::x'::r').toArray,by rw[ss,sB_,hm];rfl,by simp only[H];exact⟨_,Z,by simpa using hv⟩⟩
end
theorem vp {p q:Pos} (h:dX.beqP p q=true):p=q:=nB h
theorem Km {c d:pH} (h:dX.beqC c d=true):c=d:=by
 unfold dX.beqC at h;split at h
 ·rw[nB h]
 ·rw[nB h]
 cases h
theorem EX {x y:V} (h:dX.fD x y=true):x=y:=by
 unfold dX.fD at h;split at h
 ·rw[mz] at h;rw[eq_of_beq h]
 ·rw[bA_,dF,decide_eq_true_eq] at h;rw[pR h.1,h.2]
 ·rw[mB,decide_eq_true_eq] at h;rw[h]
 ·rfl
 ·rw[nB h]
 ·rw[bA_] at h;rw[vp h.1,nB h.2]
 ·rfl
 ·simp only[bA_] at h;rw[vp h.1.1.1,nB h.1.1.2,nB h.1.2,Km h.2]
 ·rfl
 ·rw[vp h]
 ·rfl
 ·rfl
 ·rw[nB h]
 ·simp only[bA_] at h;rw[nB h.1.1,vp h.1.2,nB h.2]
 cases h
theorem vo:∀{xs ys:List V},dX.beqL xs ys=true->xs=ys
 | [],[],_=>rfl
 | [],_::_,h=>by cases h
 | _::_,[],h=>by cases h
 | x::xs,y::ys,h=>by
  have h':(bif dX.fD x y then dX.beqL xs ys else false)=true:=h;rw[bA] at h';split at h'
  ·rename_i hb;rw[EX hb,vo h']
  cases h'
theorem Kl {x y:V} (h:dX x y=true):x=y:=by
 unfold dX at h;split at h
 ·rw[vo h]
 exact EX h
theorem DW (E:Nat->TypeId) {l:List (Nat×List V)} {b:Nat} {o:cG} (h:(IM l E).get b=some o):∃x∈l,x.1=b/\o= .row x.2 (E x.1) true:=by
 have key:∀(l:List (Nat×List V)) (m:N cG),(l.foldl (fun m x=>m.put (some (.row x.2 (E x.1) true)) (posOf x.1)) m).get b=some o->(∃x∈l,x.1=b/\o= .row x.2 (E x.1) true)∨m.get b=some o:=by
  intro l;induction l with
  | nil=>intro m h;exact .inr h
  | cons x l ih=>
   intro m h;rcases ih _ h with ⟨y,h1,h2⟩ | h
   ·exact .inl ⟨y,mC_ _ h1,h2⟩
   rw[N.lW] at h;split at h
   ·rename_i e;cases h;exact .inl ⟨x,mS_,e.symm,Z⟩
   exact .inr h
 rcases key l _ h with h | h
 ·exact h
 rw[N.mE] at h;cases h
section
variable {P:Program} {G:Cx} {S:dh} {U:D} {w:World}
theorem Cg (A:∀g,G.ov g=true->rR P g) {ev:Operand->Option V} {f:Operand->Value} {o:Oper} {r:HR} (hi:Inv S U w) (z:ER S ev f o.op) (h:dW P G ev U o.op=r) (u:∀n,r≠ .err n):xW P S U w r ((execOp f o).run P w):=by
 subst h;unfold dW at u⊢;cases hk:kindOf P o.op with
 | pure=>
  rw[hk] at u;dsimp only at u⊢;cases hp:di P ev o.op with
  | none=>rw[hp] at u;exact absurd Z<|u<|Nat.add 1000<|sV o.op
  | some v=>
   obtain⟨x,hx,hv⟩:=xk (P:=P) (w:=w) z hp;rw[hx];exact .val hv hi<|eY.refl S U w
 | read=>
  rw[hk] at u;dsimp only at u⊢;cases hp:gW P ev U o.op with
  | none=>rw[hp] at u;exact absurd Z<|u<|Nat.add 2000<|sV o.op
  | some v=>
   obtain⟨x,hx,hv⟩:=xn (P:=P) hi z hp;rw[hx];exact .val hv hi<|eY.refl S U w
 | alloc=>
  rw[hk] at u;dsimp only at u⊢;cases hp:gi P ev o.op with
  | none=>rw[hp] at u;exact absurd Z<|u<|Nat.add 3000<|sV o.op
  | some p=>
   obtain⟨ob,mk⟩:=p;obtain⟨x,ob',n,hx,aa,C,hv⟩:=ur (P:=P) (w:=w) z hp;obtain⟨inv,st⟩:=hi.alloc (l:=⟨w.heap.size,0,n⟩) Z C;rw[hx];exact .val (hv _ _<|dh.cZ _ _ _) inv st
 | jW=>
  rw[hk] at u;exact BS A hi z Z u
theorem uQ {ev:Operand->Option V} {o:Oper} (u:∀n,dW P G ev U o.op≠ .err n) (c:Call):o.op≠ .defer c:=by
 intro e;rw[e] at u;exact u 16 Z
def NJ (S:dh):Md->FrameMode->Prop
 | .ret,u=>u= .returning
 | .mO v,u=>∃x,u= .panicking [{v:=x,recovered:=false}]/\H S v x
 | .PG v,u=>∃x,u= .panicking [{v:=x,recovered:=true}]/\H S v x
theorem NJ.mono {S S':dh} (h:S.le S'):∀{md:Md} {u:FrameMode},NJ S md u->NJ S' md u
 | .ret,_,h'=>h'
 | .mO _,_,⟨x,h1,h2⟩=>⟨x,h1,H.mono h _ _ h2⟩
 | .PG _,_,⟨x,h1,h2⟩=>⟨x,h1,H.mono h _ _ h2⟩
theorem uO {ih:lf} (hS:Sound P G ih) {fn:Func} {m:Nat} {tmps:Array Value} {R:Ending->World->Prop}:∀(d:List DE) (ds:List Deferred) (md:Md) (U:D) (z:Md) (A:D) (S:dh) (w:World) (u:FrameMode),wP P G ih d md U=some (z,A)->DR S d ds->Inv S U w->GR S G->NJ S md u->
  (∀(S':dh) (w':World) (u':FrameMode),Inv S' A w'->eY S U w S' A w'->NJ S' z u'->LeavesIn Fence.wide m P fn tmps R [] u' w')->LeavesInM Fence.wide m P fn tmps R ds u w
 | [],ds,md,U,z,A,S,w,u,h,C,hi,E,hm,hk=>by
  have h':some (md,U)=some (z,A):=h;cases h';have:ds= []:=C;subst this;exact hk S w u hi (eY.refl S U w) hm
 | _::_,ds,md,U,z,A,S,w,u,h,C,hi,E,hm,hk=>by cases h
theorem tK {ih:lf} (L:Sound P G ih) {fn:Func} {m n:Nat} {t:N V} {d:List DE} {md:Md} {r:KR} {a:Act} {u:FrameMode} {R:Ending->World->Prop} (h:x8 P G ih fn md t d U=r) (C:∀n,r≠ .err n) (hi:Inv S U w) (M:GR S G) (X:TR S t n a.tmps) (Q:DR S d a.defers) (hm:NJ S md u)
  (W:∀(S':dh) (w':World) (E:Ending),Inv S' r.heap w'->eY S U w S' r.heap w'->NR S' r E->R E w'):LeavesInM Fence.wide m P fn a.tmps R a.defers u w:=by
 unfold x8 at h;cases hl:wP P G ih d md U with
 | none=>rw[hl] at h;exact absurd h.symm<|C 71
 | some q=>
  obtain⟨F,U1⟩:=q;rw[hl] at h;cases F with
  | ret=>
   dsimp only at h;cases K:fm P fn t U1 with
   | none=>rw[K] at h;exact absurd h.symm<|C 70
   | some v=>
    rw[K] at h;subst h;refine uO L d a.defers md U _ _ S w u hl Q hi M hm fun S' w' u' A st' z=>?_
    have z:u'= .returning:=z;subst z;obtain⟨x,hx,hv⟩:=yh (P:=P) A (X.mono<|st'.le hi) K;exact⟨x,hx,W S' w' _ A st' ⟨x,Z,hv⟩⟩
  | mO v=>
   dsimp only at h;subst h;refine uO L d a.defers md U _ _ S w u hl Q hi M hm fun S' w' u' A st' z=>?_
   obtain⟨x,rfl,hv⟩:=z;exact W S' w' _ A st' ⟨x,Z,hv⟩
  | PG v=>exact absurd h.symm (C 71)
theorem yB {ih:lf} (L:Sound P G ih) {f:Nat} {args:List V} {xs:Array Value} {r:KR} (h:lj P G ih f args U=r) (u:∀n,r≠ .err n) (hi:Inv S U w) (M:GR S G) (hx:dp S args xs.toList)
  (rl:Option Nat) (m:Nat) {R:Ending->World->Prop} (W:∀(S':dh) (w':World) (E:Ending),Inv S' r.heap w'->eY S U w S' r.heap w'->NR S' r E->R E w'):CallsIn (oO rl) m P f xs w R:=by
 refine sc rl ?_;unfold lj at h;cases hf:P.funcs[f]? with
 | none=>rw[hf] at h;exact absurd h.symm<|u 74
 | some fn=>
 rw[hf] at h;dsimp only at h;cases hb:fn.body with
 | none=>rw[hb] at h;exact absurd h.symm<|u 73
 | some c=>
 cases X:ry fn.ntmps args with
 | none=>rw[hb,X] at h;exact absurd h.symm<|u 73
 | some t=>
 rw[hb,X] at h;dsimp only at h;refine callsIn_of_wp_marks hf hb trivial ?_;have ht:=Df X hx;cases hc:ih c t fn.ntmps [] none U with
 | err k=>rw[hc] at h;exact absurd h.symm<|u k
 | ok e t' d' U1=>
  rw[hc] at h;have hcode:=fun(Q:Exit->Act->World->Prop) hQ=>L.run c t fn.ntmps [] none U e t' d' U1 hc S w {tmps:=xs++Array.replicate (fn.ntmps-xs.size) undef,defers:=[]} none m Q hi M ht Z trivial hQ
  cases e with
  | normal=>
   refine hcode _ fun S' w' a' A st C F E z=>?_
   have z:E= .normal:=z;subst z;exact tK L h u A (M.mono<|st.le hi) C F (md:=.ret) Z fun K w₂ E i₂ s₂ z=>W K w₂ E i₂ (st.trans s₂) z
  | ret=>
   refine hcode _ fun S' w' a' A st C F E z=>?_
   have z:E= .ret:=z;subst z;exact tK L h u A (M.mono<|st.le hi) C F (md:=.ret) Z fun K w₂ E i₂ s₂ z=>W K w₂ E i₂ (st.trans s₂) z
  | mO v=>
   refine hcode _ fun S' w' a' A st C F E z=>?_
   obtain⟨x,rfl,hv⟩:=z;exact tK L h u A (M.mono<|st.le hi) C F (md:=.mO v) ⟨x,Z,hv⟩ fun K w₂ E i₂ s₂ z=>W K w₂ E i₂ (st.trans s₂) z
  | exit i=>exact absurd h.symm (u 72)
  | goto i=>exact absurd h.symm (u 72)
theorem m8 {ih:lf} (u:Sound P G ih) {f:Nat} {args:List V} {xs:Array Value} {U':D} {v:V} (h:lj P G ih f args U= .ret v U') (hi:Inv S U w) (z:GR S G) (hx:dp S args xs.toList)
  (rl:Option Nat) (m:Nat) {R:Ending->World->Prop} (A:∀(S':dh) (w':World) (x:Value),Inv S' U' w'->eY S U w S' U' w'->H S' v x->R (.returned x) w'):CallsIn (oO rl) m P f xs w R:=
 yB u h (fun n h=>by cases h) hi z hx rl m fun S' w' E i s ⟨x,C,hv⟩=>by subst C;exact A S' w' x i s hv
theorem nX {S S':dh} {v:V} {x:Value} (h:mD v=true) (hv:H S v x):H S' v x:=by
 cases v<;>first | (simp[mD] at h;done) | (simp only[H] at hv⊢;exact hv)
theorem sx {v:V} {l:List V} (h:eH (v::l)=true):mD v=true/\eH l=true:=by
 have h':(bif mD v then eH l else false)=true:=h;cases hv:mD v with
 | true=>rw[hv] at h';exact⟨Z,h'⟩
 | false=>rw[hv] at h';cases h'
theorem lg:∀{l:List V},eH l=true->∀v∈l,mD v=true
 | [],_,v,hv=>by cases hv
 | x::l,h,v,hv=>by
  obtain⟨h1,h2⟩:=sx h;rcases mQ_.1 hv with rfl | hv
  ·exact h1
  exact lg h2 v hv
theorem uo {S S':dh}:∀{vs:List V} {xs:List Value},eH vs=true->dp S vs xs->dp S' vs xs
 | [],xs,_,h=>by rw[h.eQ];exact dp.nil
 | v::vs,xs,h,hv=>by
  obtain⟨h1,h2⟩:=sx h;obtain⟨x,r,rfl,u,h4⟩:=hv.cons_inv;exact dp.cons (nX h1 u)<|uo h2 h4
theorem Gt {x y:V} (h:zO x y=true):x=y:=by
 unfold zO at h;split at h
 ·rw[mz] at h;rw[eq_of_beq h]
 ·rw[bA_,dF,decide_eq_true_eq] at h;rw[pR h.1,h.2]
 ·rw[mB,decide_eq_true_eq] at h;rw[h]
 ·rfl
 ·rfl
 ·rfl
 ·rfl
 ·rfl
 cases h
theorem oK:∀{xs ys:List V},kS xs ys=true->xs=ys
 | [],[],_=>rfl
 | [],_::_,h=>by cases h
 | _::_,[],h=>by cases h
 | x::xs,y::ys,h=>by
  have h':(bif zO x y then kS xs ys else false)=true:=h;rw[bA] at h';split at h'
  ·rename_i hb;rw[Gt hb,oK h']
  cases h'
theorem s8 (v:V):∀(n:Nat),FJ n v=List.replicate n v
 | 0=>rfl
 | n+1=>by show v::FJ n v=_;rw[s8 v n,List.replicate_succ]
theorem kr.inv {w w':World} (hk:kr w w') (hi:Inv S U w):Inv S U w'/\eY S U w S U w':=
 hi.of ⟨⟨hi.fresh,fun b l hb=>Nat.lt_of_lt_of_le (hi.dE b l hb) hk.size,fun b o l hb hl=>let ⟨x,hx,u⟩:=hi.obj b o l hb hl;⟨x,by rw[hk.same _<|hi.dE b l hl];exact hx,u⟩,hi.inj⟩,
  ⟨fun _ _=>Z,nR_ _,hk.size,fun r z _=>hk.same r z,fun _ h _=>h,hk.tape,hk.os,hk.out⟩⟩
theorem Fc {b vb:Pos} {o o':cG} (x:Pos):(fc U b o vb o').m.get x=if x=vb then some o' else if x=b then some o else none:=by
 unfold fc;rw[N.lW,N.lW,N.mE]
theorem Lw (hi:Inv S U w) {b vb:Pos} {o o₁ o':cG} {l:Loc} (hb:U.m.get b=some o) (A:U.m.get vb=some o') (hl:S b=some l) (C:o.ro=o₁.ro)
  (L:∀x,iF S l o x->iF S l o₁ x):Inv S (fc U b o₁ vb o') w:=by
 have back:∀x q,(fc U b o₁ vb o').m.get x=some q->∃q',U.m.get x=some q'/\q.ro=q'.ro/\((x=b/\q=o₁)∨q=q'):=fun x q h=>by
  rw[Fc] at h
  by_cases e:x=vb
  ·rw[if_pos e] at h;cases h;exact⟨o',by rw[e];exact A,Z,.inr Z⟩
  rw[if_neg e] at h
  by_cases e':x=b
  ·rw[if_pos e'] at h;cases h;exact⟨o,by rw[e'];exact hb,C.symm,.inl ⟨e',Z⟩⟩
  rw[if_neg e'] at h;cases h
 refine⟨⟨fun x hx=>⟨(hi.fresh x hx).1,?_⟩,hi.dE,fun x q lx hx u=>?_,fun x y q r lx ly hx hy u E he F=>?_⟩,hi.pI.size,hi.pI.same,fun r z ⟨x,q,l',h1,h2,K,h4⟩=>?_⟩
 ·cases hq:(fc U b o₁ vb o').m.get x with
  | none=>rfl
  | some q=>
   obtain⟨q',h',_⟩:=back x q hq;rw[(hi.fresh x hx).2] at h';cases h'
 ·obtain⟨q',h',_,h''⟩:=back x q hx;obtain⟨y,hy,z⟩:=hi.obj x q' lx h' u;refine⟨y,hy,?_⟩;rcases h'' with ⟨rfl,rfl⟩ | rfl
  ·rw[hb] at h';cases h';rw[hl] at u;cases u;exact L y z
  exact z
 ·obtain⟨q',h1,h2,_⟩:=back x q hx;obtain⟨r',K,h4,_⟩:=back y r hy;rw[h2,h4];exact hi.inj x y q' r' lx ly h1 K u E he F
 obtain⟨q',h5,M,_⟩:=back x q h1;exact hi.pI.no r z ⟨x,q',l',h5,by rw[<-M];exact h2,K,h4⟩
theorem GM (hi:Inv S U w) {b vb:Pos} {cells cells' vc:List V} {e ve:Nat} {l lv:Loc} (hb:U.m.get b=some (.row cells e false)) (X:U.m.get vb=some (.row vc ve false)) (aa:S b=some l) (A:S vb=some lv)
  (a3:b≠vb) {S1:dh} {U1:D} {w₁:World} (i₁:Inv S1 U1 w₁) (s₁:eY S (fc U b (.row cells' e false) vb (.row vc ve false)) w S1 U1 w₁) {b₁:Pos} {l₁:Loc} {cs₁:List V} {o₁ k:Nat}
  (g₁:U1.m.get b₁=some (.row cs₁ e false)) (hl₁:S1 b₁=some l₁) (gv:U1.m.get vb=some (.row vc ve false)) (hne₁:b₁≠vb) (ao:eH vc=true) (hk:o₁+k<=cs₁.length) (ap:eH ((cs₁.drop o₁).take k)=true):
  zx (S.with U.next ⟨l₁.dE,l₁.sh+o₁,l₁.cells-o₁⟩) ((U.drop b).alloc (.row ((cs₁.drop o₁).take k) e false)) w₁/\
   eY S U w (S.with U.next ⟨l₁.dE,l₁.sh+o₁,l₁.cells-o₁⟩) ((U.drop b).alloc (.row ((cs₁.drop o₁).take k) e false)) w₁:=by
 have hle:=hi.vA ⟨l₁.dE,l₁.sh+o₁,l₁.cells-o₁⟩;have ab:((U.drop b).alloc (.row ((cs₁.drop o₁).take k) e false)).m.get U.next=some (.row ((cs₁.drop o₁).take k) e false):=N.dA _ _ _
 have Q:∀x,x≠U.next->((U.drop b).alloc (.row ((cs₁.drop o₁).take k) e false)).m.get x=if x=b then none else U.m.get x:=fun x hx=>by
  show((U.m.put none b).put _ U.next).get x=_;rw[N.dv _ _ _ _ hx,N.lW]
 have pI:∀x q,x≠U.next->((U.drop b).alloc (.row ((cs₁.drop o₁).take k) e false)).m.get x=some q->x≠b/\U.m.get x=some q:=fun x q hx h=>by
  rw[Q x hx] at h;split at h
  ·cases h
  rename_i K;exact⟨K,h⟩
 have hold:∀x lx,x≠U.next->(S.with U.next ⟨l₁.dE,l₁.sh+o₁,l₁.cells-o₁⟩) x=some lx->S x=some lx:=fun x lx hx h=>by rwa[dh.dT S _ hx] at h
 have aq:∀x:Pos,x.num<U.next.num->x≠U.next:=fun x hx e=>by subst e;exact Nat.lt_irrefl _ hx
 have ac:∀r,Wr S (fc U b (.row cells' e false) vb (.row vc ve false)) r->r=l.dE∨r=lv.dE:=fun r ⟨x,q,lx,h1,h2,E,h4⟩=>by
  rw[Fc] at h1
  by_cases ev:x=vb
  ·subst ev;rw[A] at E;cases E;exact .inr h4.symm
  rw[if_neg ev] at h1
  by_cases eb:x=b
  ·subst eb;rw[aa] at E;cases E;exact .inl h4.symm
  rw[if_neg eb] at h1;cases h1
 have wrs:∀r,Wr S (fc U b (.row cells' e false) vb (.row vc ve false)) r->Wr S U r:=fun r h=>by
  rcases ac r h with rfl | rfl
  ·exact⟨b,_,l,hb,Z,aa,Z⟩
  exact⟨vb,_,lv,X,Z,A,Z⟩
 have away:∀x q lx,x≠b->x≠vb->U.m.get x=some q->S x=some lx->lx.dE≠l.dE/\lx.dE≠lv.dE:=fun x q lx h1 h2 E h4=>by
  constructor
  ·intro he;have:=(hi.inj x b q _ lx l E hb h4 aa he h1).2;simp[cG.ro] at this
  intro he;have:=(hi.inj x vb q _ lx lv E X h4 A he h2).2;simp[cG.ro] at this
 have R:∀x q lx,x≠b->U.m.get x=some q->S x=some lx->lx.dE≠l₁.dE:=fun x q lx h1 E h4 he=>by
  have hlt:=hi.dE x lx h4;have hw:Wr S1 U1 lx.dE:=⟨b₁,_,l₁,g₁,Z,hl₁,he.symm⟩
  by_cases h2:x=vb
  ·subst h2;rw[A] at h4;cases h4;have L:S1 x=some lv:=s₁.ext x (hi.Ef A) |>.trans A;have:=(i₁.inj b₁ x _ _ l₁ lv g₁ gv hl₁ L he.symm hne₁).1;simp[cG.ro] at this
  obtain⟨a1,a2⟩:=away x q lx h1 h2 E h4;rcases ac _ (s₁.wr _ hw hlt) with h | h
  ·exact a1 h
  exact a2 h
 have flatObj:∀{l':Loc} {c:List V} {e':Nat} {y:Obj} {Sa Sb:dh},eH c=true->iF Sa l' (.row c e' false) y->iF Sb l' (.row c e' false) y:=fun hc ho=>by
  obtain⟨c',fr,h1,h2,E,h4,h5⟩:=ho;exact⟨c',fr,h1,h2,E,fun i v hv=>let ⟨z,hz,ar⟩:=h4 i v hv;⟨z,hz,nX (lg hc v<|gB_ hv) ar⟩,h5⟩
 constructor
 ·refine⟨fun x hx=>?_,fun x lx u=>?_,fun x q lx hx u=>?_,fun x y q r lx ly hx hy u M he W=>?_⟩
  ·have F:U.next.num+1<=x.num:=by simpa [D.alloc,D.drop,Pos.jt] using hx
   have C:x≠U.next:=fun e=>by subst e;omega
   have hf:=hi.fresh x B;rw[dh.dT S _ C,Q x C];exact⟨hf.1,by split<;>simp[hf.2]⟩
  ·by_cases C:x=U.next
   ·subst C;rw[dh.cZ] at u;cases u;exact i₁.dE b₁ l₁ hl₁
   exact Nat.lt_of_lt_of_le (hi.dE x lx<|hold x lx C u) s₁.size
  ·by_cases C:x=U.next
   ·subst C;rw[ab] at hx;rw[dh.cZ] at u;cases hx;cases u;obtain⟨c,fr,h1,h2,E,h4,h5⟩:=i₁.row g₁ hl₁;refine⟨_,h1,c,fr,Z,?_,?_,fun i v hv=>?_,fun _ j hj=>h5 Z j (by have a4:l₁.sh+o₁<=j:=hj;omega)⟩
    ·show c.size=l₁.sh+o₁+(l₁.cells-o₁);omega
    ·show((cs₁.drop o₁).take k).length<=l₁.cells-o₁;rw[lT_,lD_];omega
    have aI:cs₁[o₁+i]?=some v:=by
     rw[List.getElem?_take] at hv;split at hv
     ·rwa[List.getElem?_drop] at hv
     cases hv
    obtain⟨y,hy,aY⟩:=h4 _ v aI;exact⟨y,by rw[<-Nat.add_assoc] at hy;exact hy,nX (lg ap v<|gB_ hv) aY⟩
   obtain⟨K,F⟩:=pI x q C hx;have hlx':=hold x lx C u
   by_cases am:x=vb
   ·subst am;rw[X] at F;cases F;rw[A] at hlx';cases hlx';have L:S1 x=some lv:=(s₁.ext x<|hi.Ef A).trans A;obtain⟨y,hy,hr⟩:=i₁.obj x _ lv gv L;exact⟨y,hy,flatObj ao hr⟩
   obtain⟨y,hy,hr⟩:=hi.obj x q lx F hlx';refine⟨y,?_,hr.mono hle⟩;rw[s₁.frame _ (hi.dE x lx hlx') (fun h=>?_)]
   ·exact hy
   obtain⟨a1,a2⟩:=away x q lx K am F hlx';rcases ac _ h with h | h
   ·exact a1 h
   exact a2 h
  by_cases e1:x=U.next<;>by_cases e2:y=U.next
  ·exact absurd (e1.trans e2.symm) W
  ·subst e1;rw[dh.cZ] at u;cases u;obtain⟨a0,hy'⟩:=pI y r e2 hy;exact absurd he.symm<|R y r ly a0 hy'<|hold y ly e2 M
  ·subst e2;rw[dh.cZ] at M;cases M;obtain⟨K,F⟩:=pI x q e1 hx;exact absurd he<|R x q lx K F<|hold x lx e1 u
  exact hi.inj x y q r lx ly (pI x q e1 hx).2 (pI y r e2 hy).2 (hold x lx e1 u) (hold y ly e2 M) he W
 refine⟨fun x hx=>dh.dT S _ (aq x hx),by simp[D.alloc,D.drop,Pos.jt],s₁.size,fun r hr hn=>s₁.frame r hr fun h=>hn (wrs r h),?_,s₁.tape,s₁.os,s₁.out⟩;rintro r ⟨x,q,lx,h1,h2,E,rfl⟩ hr
 by_cases e1:x=U.next
 ·subst e1;rw[dh.cZ] at E;cases E;exact wrs _ (s₁.wr _ ⟨b₁,_,l₁,g₁,Z,hl₁,Z⟩ hr)
 exact⟨x,q,lx,(pI x q e1 h1).2,h2,hold x lx e1 E,Z⟩
theorem DT (hi:Inv S U w) {b vb:Pos} {cells cells' vc:List V} {e ve:Nat} {l lv:Loc} (hb:U.m.get b=some (.row cells e false)) (z:U.m.get vb=some (.row vc ve false)) (A:S b=some l) (C:S vb=some lv)
  (E:b≠vb) {F:dh} {u:D} {w₁:World} (i₁:Inv F u w₁) (s₁:eY S (fc U b (.row cells' e false) vb (.row vc ve false)) w F u w₁) {b₁:Pos} {l₁:Loc} {cs₁:List V} {o₁ k:Nat}
  (g₁:u.m.get b₁=some (.row cs₁ e false)) (hl₁:F b₁=some l₁) (gv:u.m.get vb=some (.row vc ve false)) (hne₁:b₁≠vb) (K:eH vc=true) (hk:o₁+k<=cs₁.length) (L:eH ((cs₁.drop o₁).take k)=true):
  Inv (S.with U.next ⟨l₁.dE,l₁.sh+o₁,l₁.cells-o₁⟩) ((U.drop b).alloc (.row ((cs₁.drop o₁).take k) e false)) w₁/\
   eY S U w (S.with U.next ⟨l₁.dE,l₁.sh+o₁,l₁.cells-o₁⟩) ((U.drop b).alloc (.row ((cs₁.drop o₁).take k) e false)) w₁:=hi.of (GM hi hb z A C E i₁ s₁ g₁ hl₁ gv hne₁ K hk L)
theorem Ee {r:KR} {v:V} {U':D} (h:sj r= .ret v U'):r= .ret v U':=by
 unfold sj at h;split at h
 ·cases h
 exact h
theorem Ed (r:KR) (v:V) (U':D):sj r≠ .mO v U':=by
 unfold sj;split
 ·intro h;cases h
 rename_i hn;intro h;exact hn _ _ h
theorem DK {ih:lf} (hS:Sound P G ih) {f:Nat} {args:List V} {xs:Array Value} {U':D} {v:V} (h:Fb P G ih f args U= .ret v U') (hi:Inv S U w) (hg:GR S G) (hx:dp S args xs.toList)
  (rl:Option Nat) (m:Nat) {R:Ending->World->Prop} (hR:∀(S':dh) (w':World) (x:Value),Inv S' U' w'->eY S U w S' U' w'->H S' v x->R (.returned x) w'):CallsIn (oO rl) m P f xs w R:=by
 unfold Fb at h;split at h
 ·rename_i b off n sz i vb voff q mc;split at h
  ·rename_i cells e vc ve hb Q;rw[bA] at h;split at h
   ·rename_i hc;simp only[bA_,nE_,Nat.beq_eq,bK] at hc;obtain⟨W,be,aq,bi,ar,hlen⟩:=hc;subst aq;have X:b≠vb:=fun e=>by subst e;rw[pe] at W;simp at W
    split at h
    ·rename_i n1 r1 n2 r2 aI aY;rw[bA] at h;split at h
     ·rename_i hq;rw[bA_] at hq;have en:=nB hq.1;have er:=oK hq.2;subst en;subst er;cases h;obtain⟨x1,rr,e1,hs,a0⟩:=hx.cons_inv;obtain⟨x2,rr',rfl,a1,a2⟩:=a0.cons_inv;obtain⟨x3,rr'',rfl,aa,a3⟩:=a2.cons_inv;have:=a3.eQ;subst this;simp only[H] at hs;obtain⟨l,hl,hd⟩:=hs
      have a4:∃c,x1= .slice (some ⟨l.dE,l.sh+off,none⟩) n c/\n<=c/\off+c*sz=l.cells:=by
       rcases hd with h | ⟨h0,_⟩
       ·exact h
       omega
      obtain⟨c,rfl,bl,C⟩:=a4;have hvv':=aa;simp only[H] at hvv';obtain⟨lv,a5,_⟩:=hvv'
      have go:∀(cells':List V) (cap:pH) (okc:pH->Nat->Bool),(∀x,iF S l (.row cells e false) x->iF S l (.row cells' e false) x)->
        qN vb vc ve e sz (lj P G ih f [.slice b off n cap,i,.slice vb voff 1 (.known mc)]<|fc U b (.row cells' e false) vb (.row vc ve false)) okc=some (n1,r1)->
        H S (.slice b off n cap) (.slice (some ⟨l.dE,l.sh+off,none⟩) n c)->
        (∀K E F n1 l1 L x,okc K n1=true->1<=n1->L E=some l1->H L (.slice E F n1 K) x->∃c',x= .slice (some ⟨l1.dE,l1.sh+F,none⟩) n1 c'/\n1<=c'/\F+c'*sz=l1.cells)->
        CallsIn (oO rl) m P f xs w R:=by
       intro cells' cap okc ab u ac a6;unfold qN at u;split at u
       ·rename_i E F bm K σ1 M;split at u
        ·rename_i bo bs bt bv g1 gv;rw[bA] at u;split at u
         ·rename_i am;simp only[bA_,nE_,Nat.beq_eq,bK] at am;obtain⟨k1,k2,k3,k4,k5,k6,k7,k8⟩:=am;cases u;have ao:E≠vb:=fun e=>by subst e;rw[pe] at k2;simp at k2
          have ev:=oK k3;subst ev;subst k4;subst k5;have hiL:=Lw hi (o₁:=.row cells' e false) hb Q hl Z ab;refine m8 hS M hiL hg ?_ rl m fun L w1 x i1 s1 A=>?_
          ·rw[e1];exact dp.cons ac<|dp.cons a1<|dp.cons aa dp.nil
          obtain⟨l1,z⟩:∃l1,L E=some l1:=by
           cases K<;>simp only[H] at A
           ·obtain⟨l1,z,_⟩:=A;exact⟨l1,z⟩
           ·obtain⟨l1,z,_⟩:=A;exact⟨l1,z⟩
           obtain⟨l1,z,_⟩:=A;exact⟨l1,z⟩
          obtain⟨c',rfl,a7,bw⟩:=a6 K E F n1 l1 L x k1 k6 z A;rw[du,dO] at k8 hR;obtain⟨iJ,sJ⟩:=DT (k:=n1*sz) hi hb Q hl a5 X i1 s1 g1 z gv ao ar k7 k8;refine hR _ w1 _ iJ sJ ?_;simp only[H];refine⟨_,dh.cZ _ _ _,.inl ⟨c',Z,a7,?_⟩⟩;show 0+c'*sz=l1.cells-F;omega
         cases u
        cases u
       cases u
      by_cases a8:c=n
      ·subst a8;refine go cells (.known c) (DQ sz) (fun _ h=>h) aI (by simp only[H];exact⟨l,hl,Z⟩) fun K E F n1 l1 L x h1 h2 h3 h4=>?_
       unfold DQ at h1;split at h1
       ·rename_i s;have:=nB h1;subst this;simp only[H] at h4;obtain⟨a9,h5,⟨c',h6,h7,h8⟩ | ⟨h0,_⟩⟩:=h4
        ·rw[h3] at h5;cases h5;exact⟨c',h6,h7,h8⟩
        omega
       cases h1
      have ap:n+1<=c:=by omega
      refine go (ie (takeN cells (off+n*sz))<|FJ sz .any) (.least (Nat.succ n) sz) (zW sz) (fun x ho=>?_) aY (by simp only[H];exact⟨l,hl,c,Z,ap,C⟩) fun K E F n1 l1 L x h1 h2 h3 h4=>?_
      ·obtain⟨cc,fr,h1,h2,h3,h4,h5⟩:=ho;have hmul:(n+1)*sz<=c*sz:=nM_ _ ap;have b0:(n+1)*sz=n*sz+sz:=Nat.succ_mul n sz;refine⟨cc,fr,h1,h2,?_,fun j v hv=>?_,h5⟩
       ·rw[dV,du,s8,lA_,lT_,List.length_replicate];omega
       rw[dV,du,s8] at hv
       by_cases hj:j<off+n*sz
       ·rw[gL_ (by rw[lT_];omega),List.getElem?_take,if_pos hj] at hv;exact h4 j v hv
       have bb:j<(cells.take (off+n*sz)++List.replicate sz V.any).length:=(gA.1 hv).1;rw[lA_,lT_,List.length_replicate] at bb;rw[gR_ (by rw[lT_];omega),List.getElem?_replicate] at hv;split at hv
       ·cases hv;have:l.sh+j<cc.size:=by omega
        exact⟨cc[l.sh+j],aG_ this,by simp only[H]⟩
       cases hv
      unfold zW at h1;split at h1
      ·rename_i a s;rw[bA_,nE_] at h1;have:=nB h1.1;subst this;simp only[H] at h4;obtain⟨a9,h5,c',h6,h7,h8⟩:=h4;rw[h3] at h5;cases h5;exact⟨c',h6,Nat.le_trans h1.2 h7,h8⟩
      cases h1
     cases h
    cases h
   cases h
  cases h
 exact m8 hS h hi hg hx rl m hR
theorem GR.size (hi:Inv S U w) (u:GR S G):G.gl<=w.heap.size:=by
 cases aa:G.gl with
 | zero=>exact Nat.zero_le _
 | succ g=>
  obtain⟨c,hc⟩:=u g B;have:=hi.dE _ _ hc;exact this
theorem sQ (hi:Inv S U w) (F:GR S G):∀(l:List (Nat×List V)),nD G.gl U l=true->∀x∈l,lB w x
 | [],_,x,hx=>by cases hx
 | y::l,h,x,hx=>by
  have h':(bif Nat.ble (Nat.succ y.1) G.gl then(match U.m.get y.1 with
   | some (.row cells _ true)=>bif eH y.2 then(bif kS cells y.2 then nD G.gl U l else false) else false
   | _=>false) else false)=true:=h
  rw[bA] at h';split at h'
  ·rename_i u;rw[nE_] at u;split at h'
   ·rename_i cells e hb;rw[bA] at h';split at h'
    ·rename_i hf;rw[bA] at h';split at h'
     ·rename_i he;have:=oK he;subst this;rcases mQ_.1 hx with rfl | hx
      ·obtain⟨cn,hc⟩:=F x.1 u;obtain⟨c,fr,h1,h2,L,h4,_⟩:=hi.row hb hc;have A:c.size=cn:=by simpa using h2
       have C:x.2.length<=cn:=L;refine⟨c,e,fr,h1,by rw[A];exact C,fun i v hv=>?_⟩;obtain⟨z,K,E⟩:=h4 i v hv;simp only[nA_] at K;exact⟨z,K,nX (lg hf v<|gB_ hv) E⟩
      exact sQ hi F l h' x hx
     cases h'
    cases h'
   cases h'
  cases h'
theorem vP {ih:lf} (z:Sound P G ih) {f:Nat} {args:List V} {xs:Array Value} {U':D} {v:V} (h:mw P G ih f args U= .ret v U') (hi:Inv S U w) (A:GR S G) (hx:dp S args xs.toList)
  (rl:Option Nat) (m:Nat) {R:Ending->World->Prop} (C:∀(S':dh) (w':World) (x:Value),Inv S' U' w'->eY S U w S' U' w'->H S' v x->R (.returned x) w'):CallsIn (oO rl) m P f xs w R:=by
 unfold mw at h;cases hk:G.HB f args U with
 | some u=>
  rw[hk] at h;dsimp only at h;rw[bA] at h;split at h
  ·rename_i hf;cases h;refine sc rl<|callsIn_wide.2 ?_;refine(z.cx.HB f args U v hk S w xs hi hx).mono fun e w' ⟨x,S',he,hv,i',s'⟩=>?_
   subst he;exact C S' w' x i' s' hv
  cases h
 | none=>
 rw[hk] at h;dsimp only at h;cases E:G.HD f args with
 | some u=>
  rw[E] at h;dsimp only at h;rw[bA] at h;split at h
  ·rename_i hf;simp only[bA_] at hf;obtain⟨F,K,L⟩:=hf;cases h;refine sc rl<|callsIn_wide.2 ?_;refine(z.cx.HD f args v E w xs (GR.size hi A) ⟨hi.pI.size,hi.pI.same⟩ (sQ hi A _ L)<|uo F hx).mono fun e w' ⟨x,he,hv,hk⟩=>?_
   subst he;obtain⟨i',s'⟩:=hk.inv hi;exact C S w' x i' s'<|nX K hv
  cases h
 | none=>
  rw[E] at h;dsimp only at h;split at h
  ·cases h
  rw[bA] at h;split at h
  ·have h:=Ee h;unfold pX at h;rw[bA] at h;split at h
   ·exact m8 z h hi A hx rl m C
   exact DK z h hi A hx rl m C
  exact m8 z h hi A hx rl m C
theorem HO {ih:lf} (z:Sound P G ih) {f:Nat} {args:List V} {xs:Array Value} {U':D} {v:V} (h:mw P G ih f args U= .mO v U') (hi:Inv S U w) (A:GR S G) (hx:dp S args xs.toList)
  (rl:Option Nat) (m:Nat) {R:Ending->World->Prop} (C:∀(S':dh) (w':World) (x:Value),Inv S' U' w'->eY S U w S' U' w'->H S' v x->R (.panicked [{v:=x,recovered:=false}]) w'):CallsIn (oO rl) m P f xs w R:=by
 unfold mw at h;cases hk:G.HB f args U with
 | some u=>rw[hk] at h;dsimp only at h;rw[bA] at h;split at h<;>cases h
 | none=>
 rw[hk] at h;dsimp only at h;split at h
 ·rw[bA] at h;split at h<;>cases h
 split at h
 ·cases h
 rw[bA] at h;split at h
 ·exact absurd h<|Ed _ _ _
 exact yB z h (fun n h=>by cases h) hi A hx rl m fun S' w' E i s ⟨x,F,hv⟩=>by subst F;exact C S' w' x i s hv
theorem Gs {ih:lf} (z:Sound P G ih) {o:Oper} {r:HR} {res:Result Next} {v:V} {U':D} (hi:Inv S U w) (A:GR S G) (C:xW P S U w r res) (h:lT P G ih r= .ret v U') (rl:Option Nat) (m:Nat) {a:Act} {next:Act->World->Prop} {Q:Exit->Act->World->Prop}
  (hn:∀(S':dh) (w':World) (x:Value),Inv S' U' w'->eY S U w S' U' w'->H S' v x->next (a.put o.dst x) w'):o.uponIn (oO rl) m P a next Q res:=by
 cases C with
 | val hv u st=>
  cases h;rw[Oper.uponIn_value];exact hn _ _ _ u st hv
 | skip u st=>
  cases h;rw[Oper.uponIn_skip];exact hn _ _ _ u st vn
 | enter hv=>
  rw[Oper.uponIn_enter];exact⟨yM rl m,vP z h hi A hv rl _ fun S' w' x i s q=>hn S' w' x i s q⟩
 | round hv hl hr=>cases h
 | mO hv=>cases h
theorem KE {ih:lf} (z:Sound P G ih) {o:Oper} {r:HR} {res:Result Next} {v:V} {U':D} (hi:Inv S U w) (A:GR S G) (C:xW P S U w r res) (h:lT P G ih r= .mO v U') (rl:Option Nat) (m:Nat) {a:Act} {next:Act->World->Prop} {Q:Exit->Act->World->Prop}
  (hn:∀(S':dh) (w':World) (x:Value),Inv S' U' w'->eY S U w S' U' w'->H S' v x->Q (.panic [{v:=x,recovered:=false}]) a w'):o.uponIn (oO rl) m P a next Q res:=by
 cases C with
 | val hv u st=>cases h
 | skip u st=>cases h
 | enter hv=>
  rw[Oper.uponIn_enter];exact⟨yM rl m,HO z h hi A hv rl _ fun S' w' x i s q=>hn S' w' x i s q⟩
 | round hv hl hr=>cases h
 | mO hv=>
  cases h;rw[Oper.uponIn_panic];exact hn _ _ _ hi (eY.refl _ _ _) hv
theorem zM {ih:lf} {r:HR} {v:V} {U':D} (h:lT P G ih r= .mO v U') (n:Nat):r≠ .err n:=by
 intro e;subst e;cases h
theorem Lg {ih:lf} (u:Sound P G ih) {ev:Operand->Option V} {o:Oper} {a:Act} {v:V} {U':D} (hi:Inv S U w) (z:GR S G) (A:ER S ev a.eval o.op) (h:lT P G ih (dW P G ev U o.op)= .mO v U') (rl:Option Nat) (m:Nat) {next:Act->World->Prop} {Q:Exit->Act->World->Prop}
  (hn:∀(S':dh) (w':World) (x:Value),Inv S' U' w'->eY S U w S' U' w'->H S' v x->Q (.panic [{v:=x,recovered:=false}]) a w'):o.wpIn (oO rl) m P a w next Q:=by
 have hne:=zM h;refine⟨fun f _=>qJ rl f,?_⟩;rw[Oper.semAt_eq _ _ _<|uQ hne];exact KE u hi z (Cg u.cx.ov hi A Z hne) h rl m hn
theorem BA {ih:lf} {r:HR} {v:V} {U':D} (h:lT P G ih r= .ret v U') (n:Nat):r≠ .err n:=by
 intro e;subst e;cases h
theorem Ce {ih:lf} (u:Sound P G ih) {ev:Operand->Option V} {o:Oper} {a:Act} {v:V} {U':D} (hi:Inv S U w) (z:GR S G) (A:ER S ev a.eval o.op) (h:lT P G ih (dW P G ev U o.op)= .ret v U') (rl:Option Nat) (m:Nat) {next:Act->World->Prop} {Q:Exit->Act->World->Prop}
  (hn:∀(S':dh) (w':World) (x:Value),Inv S' U' w'->eY S U w S' U' w'->H S' v x->next (a.put o.dst x) w'):o.wpIn (oO rl) m P a w next Q:=by
 have hne:=BA h;refine⟨fun f _=>qJ rl f,?_⟩;rw[Oper.semAt_eq _ _ _<|uQ hne];exact Gs u hi z (Cg u.cx.ov hi A Z hne) h rl m hn
theorem tX {ih:lf} (F:Sound P G ih) {ops:Array Oper} {n m:Nat} {d:List DE} (rl:Option Nat) {Q:Exit->Act->World->Prop} {e:Ex} {t':N V} {d':List DE} {U':D}:
  ∀(l:List Oper) (i:Nat),ops.toList.drop i=l->∀(t:N V) (U:D) (S:dh) (w:World) (a:Act),ya d (sW P G ih ops n d l t U)= .ok e t' d' U'->Inv S U w->GR S G->TR S t n a.tmps->DR S d a.defers->
   (∀(S':dh) (w':World) (a':Act),Inv S' U' w'->eY S U w S' U' w'->TR S' t' n a'.tmps->DR S' d' a'.defers->Qx Q S' e a' w')->wpOpsIn (oO rl) m P ops Q (List.range' i l.length) a w
 | [],i,hl,t,U,S,w,a,h,hi,z,u,A,C=>by
  have h':CR.ok .normal t d U= .ok e t' d' U':=h;cases h';exact C S w a hi (eY.refl _ _ _) u A _ Z
 | o::l,i,hl,t,U,S,w,a,h,hi,z,u,A,C=>by
  have K:ops[i]?=some o:=by
   rw[<-aT_];have:(ops.toList.drop i)[0]?=some o:=by rw[hl];rfl
   simpa using this
  have E:ops.toList.drop (i+1)=l:=by
   rw[<-List.drop_drop,hl];rfl
  have h':ya d (ju P G ih true ops n o t U<|sW P G ih ops n d l)= .ok e t' d' U':=h;unfold ju at h';simp only[List.length_cons,List.range'_succ,wpOpsIn,K];cases hw:bM ops t o with
  | none=>rw[hw] at h';cases h'
  | some b=>
   rw[hw] at h';rw[AI hw u];cases b with
   | false=>
    dsimp only at h';cases hp:dI t n o.dst unit with
    | none=>rw[hp] at h';cases h'
    | some t₁=>
     rw[hp] at h';simp only[Bool.false_eq_true,if_false];exact⟨fun f _=>qJ rl f,tX F rl l (i+1) E t₁ U S w _ h' hi z (u.put hp vn) (by rw[put_defers];exact A) C⟩
   | true=>
    dsimp only at h';cases he:lT P G ih (dW P G (bE G t) U o.op) with
    | err k=>rw[he] at h';cases h'
    | mO v L=>
     rw[he] at h';have h':CR.ok (.mO v) t d L= .ok e t' d' U':=h';cases h';simp only[if_true];refine Lg F hi z (LW _ z u) he rl m fun M w₁ x hi₁ st₁ hv=>?_
     have hle:=st₁.le hi;exact C M w₁ a hi₁ st₁ (u.mono hle) (A.mono hle) _ ⟨x,Z,hv⟩
    | ret v L=>
     rw[he] at h';dsimp only at h';cases hp:dI t n o.dst v with
     | none=>rw[hp] at h';cases h'
     | some t₁=>
      rw[hp] at h';simp only[if_true];refine Ce F hi z (LW _ z u) he rl m fun M w₁ x hi₁ st₁ hv=>?_
      have hle:=st₁.le hi
      exact tX F rl l (i+1) E t₁ L M w₁ _ h' hi₁ (z.mono hle) ((u.mono hle).put hp hv) (by rw[put_defers];exact A.mono hle)
       fun S' w' a' i' s'=>C S' w' a' i' (st₁.trans s')
end
theorem xe {P:Program} {U U':D} (he:∀(b:Pos) (o:cG),U.m.get b=some o->U'.m.get b=some o) {u:Option TypeId} {x:Option V} {v:V} (h:sn P u U x=some v):sn P u U' x=some v:=by
 unfold sn at h⊢;cases x with
 | none=>cases h
 | some xv=>
  cases xv with
  | ptr b off=>
   dsimp only at h⊢;cases hb:U.m.get b with
   | none=>rw[hb] at h;cases h
   | some o=>rw[hb] at h;rw[he b o hb];exact h
  | _=>cases h
theorem He {P:Program} {ev:Operand->Option V} {U U':D} {op:Op} {v:V} (he:∀b o,U.m.get b=some o->U'.m.get b=some o) (h:gW P ev U op=some v):gW P ev U' op=some v:=by
 cases op with
 | load t x=>
  simp only[gW] at h⊢;cases hx:ev x with
  | none=>rw[hx] at h;cases h
  | some u=>
   rw[hx] at h;cases u with
   | ptr b off=>
    dsimp only at h⊢;cases hb:U.m.get b with
    | none=>rw[hb] at h;cases h
    | some o=>rw[hb] at h;rw[he b o hb];exact h
   | _=>cases h
 | lookup t x i ok=>
  simp only[gW] at h⊢;split at h
  ·rename_i kt et k hu z;cases hx:ev x with
   | none=>rw[hx] at h;dsimp only at h;rw[bA] at h;split at h<;>cases h
   | some u=>
    rw[hx] at h;cases u with
    | iR=>simpa only[hu,z] using h
    | map b=>
     dsimp only at h⊢;cases hb:U.m.get b with
     | none=>rw[hb] at h;dsimp only at h;rw[bA] at h;split at h<;>cases h
     | some o=>rw[hb] at h;rw[he b o hb];simpa only[hu,z] using h
    | _=>dsimp only at h;rw[bA] at h;split at h<;>cases h
  cases h
 | call c=>
  simp only[gW] at h⊢;split at h
  ·rename_i aa;split at h
   ·rename_i u1 u2 t x e1 e2;split at h
    ·rename_i u3 u4 kt et b hu hx;cases hb:U.m.get b with
     | none=>rw[hb] at h;cases h
     | some o=>rw[hb] at h;rw[he b o hb];exact h
    ·exact h
    cases h
   cases h
  cases h
 | convert src dst x=>
  simp only[gW] at h⊢;split at h
  ·rename_i e hs hd;split at h
   ·rename_i h1 h2;exact h
   ·rename_i b off len cap h1 h2;rw[bA] at h⊢;split at h
    ·rename_i hc;rw[if_pos hc];exact h
    rename_i hc;rw[if_neg hc];cases hb:U.m.get b with
    | none=>rw[hb] at h;cases h
    | some o=>rw[hb] at h;rw[he b o hb];exact h
   cases h
  ·split at h
   ·rw[bA] at h⊢;split at h
    ·cases h
    rename_i hc;rw[if_neg hc];exact xe he h
   cases h
  ·rw[bA] at h⊢;split at h
   ·rename_i hc;rw[if_pos hc];exact xe he h
   cases h
  cases h
 | _=>exact h
theorem ra {ops:Array Oper} {i j:Nat}:waits ops i j=true↔∃o,ops[i]?=some o/\∃e∈o.after,Region.binds .any e=true/\e.on=j:=by
 unfold waits;cases h:ops[i]? with
 | none=>simp
 | some o=>
  simp only[Option.map_some,Option.getD_some,oJ_,exists_eq_left',bA_,beq_iff_eq,Array.any_iff_exists];constructor
  ·rintro ⟨q,hq,_,_,h1⟩;exact⟨_,Array.getElem_mem hq,h1⟩
  rintro ⟨e,he,h1⟩;obtain⟨q,hq,rfl⟩:=Array.getElem_of_mem he;exact⟨q,hq,Nat.zero_le _,hq,h1⟩
structure Shape (P:Program) (ops:Array Oper) (A:Array Nat):Prop where
 dep:∀i j,waits ops i j=true->j<ops.size
 ru:∀i j,i<ops.size->j<ops.size->ru A i j=true->waits ops i j=true∨∃d,waits ops i d=true/\Ev.ru A d j=true
 uniq:∀i j k,fe ops i=some k->fe ops j=some k->i=j
 look:∀(i:Nat) (o:Oper) (j k:Nat),ops[i]?=some o->fe ops j=some k->k∈slotsOf ops o->Ev.ru A i j=true∨(gu P ops i=false/\(j=i∨Ev.ru A j i=true))
 dst:∀(i:Nat) (o:Oper),ops[i]?=some o->gu P ops i=true->∃k,o.dst=some k
theorem mA {ops:Array Oper} {i k:Nat} (h:fe ops i=some k):i<ops.size:=by
 unfold fe at h;cases u:ops[i]? with
 | none=>rw[u] at h;cases h
 | some o=>exact(aS_.1 u).1
theorem iM {ops:Array Oper} {i:Nat} {o:Oper} (h:ops[i]?=some o):fe ops i=o.dst:=by simp[fe,h]
theorem jx (m i:Nat):hasB m i=m.testBit i:=by
 rw[Nat.testBit_eq_decide_div_mod_eq];show Nat.beq ((m >>> i) &&& 1) 1=_;rw[Nat.and_one_is_mod,Nat.shiftRight_eq_div_pow];cases h:Nat.beq (m/2 ^ i%2) 1 with
 | true=>exact(decide_eq_true<|nB h).symm
 | false=>exact(decide_eq_false (fun e=>by rw[e] at h;cases h)).symm
theorem Na (w:Nat):Nat.beq (Nat.land w 1) 1=w.testBit 0:=by
 have:=jx w 0;exact this
theorem uw (i j:Nat):(bit i).testBit j=decide (i=j):=by
 show(1 <<< i).testBit j=_;rw[Nat.one_shiftLeft,Nat.testBit_two_pow]
theorem ni (m k j:Nat):(Nat.lor m k).testBit j=(m.testBit j || k.testBit j):=Nat.testBit_or m k j
theorem kH {j:Nat}:∀{l:List Nat},(nG l).testBit j=true↔j∈l
 | []=>by simp[nG]
 | i::l=>by
  show(Nat.lor (bit i)<|nG l).testBit j=true↔_;rw[ni,uw,Bool.or_eq_true,kH,mQ_,decide_eq_true_eq];exact⟨fun h=>h.imp Eq.symm id,fun h=>h.imp Eq.symm id⟩
theorem zg {m k:Nat} (h:yq m k=true) (j:Nat) (hj:m.testBit j=true):k.testBit j=true:=by
 have e:m &&& k=m:=nB h;rw[<-e,Nat.testBit_and,bA_] at hj;exact hj.2
theorem EB {m k:Nat} (h:yq m k=false):∃j,m.testBit j=true/\k.testBit j=false:=by
 apply Classical.byContradiction;intro hn
 have e:m &&& k=m:=Nat.eq_of_testBit_eq fun j=>by
  rw[Nat.testBit_and];cases hm:m.testBit j with
  | false=>rfl
  | true=>
   cases hk:k.testBit j with
   | true=>rfl
   | false=>exact absurd ⟨j,hm,hk⟩ hn
 have:yq m k=true:=by
  show Nat.beq (m &&& k) m=true;rw[e];exact Nat.beq_refl m
 rw[this] at h;cases h
theorem rM {j:Nat}:∀{L:List RA} {w:Nat},(w0 L w).testBit j=true->∃d x,L[d]?=some x/\w.testBit d=true/\x.a.testBit j=true
 | [],w,h=>by simp[w0] at h
 | x::L,w,h=>by
  have h':(Nat.lor (@Bool.rec (fun _=>Nat) 0 x.a<|Nat.beq (Nat.land w 1) 1)<|w0 L<|w >>> 1).testBit j=true:=h;rw[ni,Bool.or_eq_true,Na] at h';rcases h' with h' | h'
  ·cases hw:w.testBit 0 with
   | true=>rw[hw] at h';exact⟨0,x,Z,hw,h'⟩
   | false=>
    rw[hw] at h';have h'':(0:Nat).testBit j=true:=h';simp at h''
  obtain⟨d,y,h1,h2,u⟩:=rM h';rw[Nat.testBit_shiftRight] at h2;exact⟨d+1,y,by simpa using h1,by rw[Nat.add_comm];exact h2,u⟩
theorem sq:∀(rows:List Row) (L:List RA),(Jo rows L).map (·.r)=L.map (·.r)++rows
 | [],L=>by show L.map (·.r)=_;simp
 | r::rows,L=>by
  show(Jo rows<|ie L [⟨r,Nat.lor r.w<|w0 L r.w⟩]).map (·.r)=_
  rw[sq rows,dV];simp
theorem Ag {P:Program} {ops:Array Oper} {i:Nat} {o:Oper} (h:ops[i]?=some o):∃x,(jd P ops)[i]?=some x/\x.r=xw P ops o:=by
 have e:=sq (yd (xw P ops) ops.toList) [];rw[lY] at e
 have e':((jd P ops).map (·.r))[i]?=some (xw P ops o):=by
  unfold jd;rw[lY,e];simp[h]
 rw[gM_] at e';cases hx:(jd P ops)[i]? with
 | none=>rw[hx] at e';cases e'
 | some x=>rw[hx] at e';exact⟨x,Z,by simpa using e'⟩
theorem Jp {P:Program} {ops:Array Oper} {i:Nat} {x:RA} (h:(jd P ops)[i]?=some x):∃o,ops[i]?=some o/\x.r=xw P ops o:=by
 have e:=sq (yd (xw P ops) ops.toList) [];rw[lY] at e
 have e':((jd P ops).map (·.r))[i]?=ops[i]?.map (xw P ops):=by
  unfold jd;rw[lY,e];simp
 rw[gM_,h] at e';cases u:ops[i]? with
 | none=>rw[u] at e';cases e'
 | some o=>rw[u] at e';exact⟨o,Z,by simpa using e'⟩
theorem Cs {P:Program} {ops:Array Oper} {i j:Nat} {o:Oper} (h:ops[i]?=some o):(xw P ops o).w.testBit j=true↔waits ops i j=true:=by
 rw[ra];show(nG _).testBit j=true↔_;rw[kH,List.mem_filterMap];constructor
 ·rintro ⟨e,he,hb⟩;split at hb
  ·rename_i z;cases hb;exact⟨o,h,e,by simpa using he,z,Z⟩
  cases hb
 rintro ⟨o',u,e,he,hb,rfl⟩;rw[h] at u;cases u;exact⟨e,by simpa using he,by rw[if_pos hb]⟩
theorem yw {α:Type} {f:Nat->α->Bool}:∀{l:List α} {i:Nat},allI f l i=true->∀(j:Nat) (x:α),l[j]?=some x->f (i+j) x=true
 | [],i,_,j,x,hx=>by simp at hx
 | y::l,i,h,j,x,hx=>by
  have h': @Bool.rec (fun _=>Bool) false (allI f l (i+1)) (f i y)=true:=h;cases hf:f i y with
  | false=>rw[hf] at h';cases h'
  | true=>
   rw[hf] at h';cases j with
   | zero=>simp at hx;subst hx;exact hf
   | succ j=>
    have:=yw h' j x (by simpa using hx);rw[show i+(j+1)=i+1+j by omega];exact this
theorem qD {α:Type} {f:Nat->α->Bool} {l:List α} (h:allI f l 0=true) (j:Nat) (x:α) (hx:l[j]?=some x):f j x=true:=by
 have:=yw h j x hx;rwa[nA_] at this
theorem mq {a b:Bool} (h:(bif a then b else false)=true):a=true/\b=true:=by cases a<;>simp_all
def zB (P:Program) (ops:Array Oper):Array Nat:=((jd P ops).map (·.a)).toArray
theorem sA {P:Program} {ops:Array Oper} {i j:Nat} {x:RA} (h:(jd P ops)[i]?=some x):ru (zB P ops) i j=x.a.testBit j:=by
 unfold ru zB
 have:(((jd P ops).map (·.a)).toArray).getD i 0=x.a:=by
  rw[Array.getD_eq_getD_getElem?];simp[h]
 rw[this]
theorem BR {P:Program} {ops:Array Oper} {i:Nat} {o:Oper} (h:ops[i]?=some o):jX P ops i=(xw P ops o).h:=by unfold jX;rw[h];rfl
theorem wU {P:Program} {ops:Array Oper} {i:Nat} {o:Oper} (h:ops[i]?=some o):gu P ops i=(xw P ops o).k:=by unfold gu;rw[h];rfl
theorem Eh {i j:Nat} {x y:RA} (h:Ji i x j y=true) (u:y.r.dm=nG y.r.d.toList):Ch i x j y=true:=by
 unfold Ji at h;cases hb:Nat.beq (Nat.land (Nat.lor x.r.dm x.r.s) y.r.dm) 0 with
 | false=>rw[hb] at h;exact h
 | true=>
  have e:(x.r.dm ||| x.r.s) &&& y.r.dm=0:=nB hb;unfold Ch;cases hy:y.r.d with
  | none=>rfl
  | some k=>
   have hk:y.r.dm.testBit k=true:=by rw[u,hy];exact kH.2 (by simp)
   have h0:((x.r.dm ||| x.r.s) &&& y.r.dm).testBit k=false:=by rw[e];exact Nat.zero_testBit k
   rw[Nat.testBit_and,hk,Bool.and_true,Nat.testBit_or,Bool.or_eq_false_iff] at h0;have z:hasB x.r.dm k=false:=by rw[jx];exact h0.1
   have A:hasB x.r.s k=false:=by rw[jx];exact h0.2
   dsimp only;rw[z,A];rfl
theorem Jz {P:Program} {ops:Array Oper} (h:Jy (jd P ops) ops.size=true):Shape P ops (zB P ops):=by
 have key:∀i o,ops[i]?=some o->∃x,(jd P ops)[i]?=some x/\x.r=xw P ops o/\x.r.w<2 ^ ops.size/\(x.r.k=true->x.r.d.isSome=true)/\yq x.a (Nat.lor x.r.w<|w0 (jd P ops) x.r.w)=true/\
   ∀j y,(jd P ops)[j]?=some y->Ch i x j y=true:=by
  intro i o u;obtain⟨x,hx,A⟩:=Ag (P:=P) u;have h1:=qD h i x hx;obtain⟨R,h1⟩:=mq h1;obtain⟨k2,h1⟩:=mq h1;obtain⟨W,h1⟩:=mq h1;refine⟨x,hx,A,?_,fun hk=>?_,W,fun j y hy=>Eh (qD h1 j y hy) (by obtain⟨o',_,C⟩:=Jp hy;rw[C];rfl)⟩
  ·rw[sE] at R;have:bit ops.size=2 ^ ops.size:=Nat.one_shiftLeft _;rw[<-this];exact R
  rw[hk] at k2;exact k2
 have pair:∀i o j o' k,ops[i]?=some o->ops[j]?=some o'->o'.dst=some k->(o.dst=some k->j=i)/\(k∈slotsOf ops o->ru (zB P ops) i j=true∨(gu P ops i=false/\(j=i∨ru (zB P ops) j i=true))):=by
  intro i o j o' k u z hk;obtain⟨x,hx,A,_,_,_,hp⟩:=key i o u;obtain⟨y,hy,C⟩:=Ag (P:=P) z;have h1:=hp j y hy;unfold Ch at h1;have G:y.r.d=some k:=by rw[C];exact hk
  rw[G] at h1;have K:(bif (bif hasB x.r.dm k then Nat.beq j i else true) then(bif hasB x.r.s k then(bif hasB x.a j then true else(bif x.r.k then false else(bif Nat.beq j i then true else hasB y.a i))) else true) else false)=true:=h1;obtain⟨g1,g2⟩:=mq K;refine⟨fun L=>?_,fun M=>?_⟩
  ·have:hasB x.r.dm k=true:=by
    rw[jx,A];show(nG o.dst.toList).testBit k=true;rw[kH,L];simp
   rw[this] at g1;exact nB g1
  have:hasB x.r.s k=true:=by
   rw[jx,A];exact kH.2 M
  rw[this] at g2;simp only[cond_true] at g2;rw[sA hx,sA hy,wU (P:=P) u,<-A];cases E:hasB x.a j with
  | true=>rw[jx] at E;exact .inl E
  | false=>
   rw[E] at g2;simp only[cond_false] at g2;cases F:x.r.k with
   | true=>rw[F] at g2;cases g2
   | false=>
    rw[F] at g2;simp only[cond_false] at g2;cases hb:Nat.beq j i with
    | true=>exact .inr ⟨Z,.inl<|nB hb⟩
    | false=>rw[hb] at g2;rw[jx] at g2;exact .inr ⟨Z,.inr g2⟩
 refine⟨fun i j hw=>?_,fun i j hi hj E=>?_,fun i j k hi hj=>?_,fun i o j k u hj hk=>?_,fun i o u hl=>?_⟩
 ·obtain⟨o,u,_⟩:=ra.1 hw;obtain⟨x,hx,A,Q,_⟩:=key i o u;have:x.r.w.testBit j=true:=by rw[A];exact(Cs u).2 hw
  apply Classical.byContradiction;intro hn;rw[Nat.testBit_lt_two_pow<|Nat.lt_of_lt_of_le Q<|Nat.pow_le_pow_right B B] at this;cases this
 ·have u:ops[i]?=some ops[i]:=aG_ hi;obtain⟨x,hx,A,_,_,M,_⟩:=key i _ u;rw[sA hx] at E;have h1:=zg M j E;rw[ni,Bool.or_eq_true] at h1;rcases h1 with h1 | h1
  ·rw[A] at h1;exact .inl ((Cs u).1 h1)
  obtain⟨d,y,hy,h2,X⟩:=rM h1;rw[A] at h2;exact .inr ⟨d,(Cs u).1 h2,by rw[sA hy];exact X⟩
 ·have hi':=mA hi;have hj':=mA hj;have u:ops[i]?=some ops[i]:=aG_ hi';have z:ops[j]?=some ops[j]:=aG_ hj';rw[iM u] at hi;rw[iM z] at hj;exact((pair i _ j _ k u z hj).1 hi).symm
 ·have hj':=mA hj;have z:ops[j]?=some ops[j]:=aG_ hj';rw[iM z] at hj;exact(pair i o j _ k u z hj).2 hk
 obtain⟨x,hx,A,_,G,_⟩:=key i o u;rw[wU (P:=P) u,<-A] at hl;have:=G hl;rw[A] at this;exact Option.isSome_iff_exists.1 this
def Ord (ops:Array Oper):List Nat->Prop
 | []=>True
 | i::r=>(∀j,waits ops i j=true->j∈r)/\Ord ops r
structure HH (P:Program) (ops:Array Oper) (A:Array Nat) (i:Nat) (rc:List Nat) (done:List Nat):Prop where
 lt:i<ops.size
 new:i∉done
 dep:∀j,waits ops i j=true->j∈done
 again:jX P ops i=true->∀j∈done,gu P ops j=true->ru A i j=true∨j∈rc
 alone:jX P ops i=true->∀j,j<ops.size->j∉done->j≠i->∃e,waits ops j e=true/\e∉done
def ES (P:Program) (ops:Array Oper) (A:Array Nat):List (Nat×List Nat)->List Nat->Prop
 | [],done=>∀i,i<ops.size->i∈done
 | (i,rc)::l,done=>HH P ops A i rc done/\ES P ops A l (i::done)
theorem vZ {P:Program} {ops:Array Oper}:∀(p:List (Nat×List Nat)) (D_:Nat) (done:List Nat),(∀j,D_.testBit j=true↔j∈done)->Dl (jd P ops) ops.size p D_=true->ES P ops (zB P ops) p done
 | [],D_,done,z,h=>fun i hi=>by
  have e:D_=bit ops.size-1:=nB h;rw[<-z,e,show bit ops.size=2 ^ ops.size from Nat.one_shiftLeft _,Nat.testBit_two_pow_sub_one];exact decide_eq_true hi
 | (i,rc)::l,D_,done,z,h=>by
  have h':Option.rec (motive:=fun _=>Bool) false (fun x=>bif IE (jd P ops) i rc D_ x then Dl (jd P ops) ops.size l (Nat.lor D_<|bit i) else false) (nth (jd P ops) i)=true:=h;rw[eF] at h';cases hx:(jd P ops)[i]? with
  | none=>rw[hx] at h';cases h'
  | some x=>
  rw[hx] at h';obtain⟨h1,h2⟩:=mq h';obtain⟨o,K,M⟩:=Jp hx;have hlt:=(aS_.1 K).1;unfold IE at h1;cases hi:hasB D_ i with
  | true=>rw[hi] at h1;cases h1
  | false=>
  rw[hi] at h1;obtain⟨hw,L⟩:=mq h1;refine⟨⟨hlt,fun hm=>?_,fun j hj=>?_,fun E j hj hl=>?_,fun E j hj hn Q=>?_⟩,vZ l _ (i::done) (fun j=>?_) h2⟩
  ·rw[jx] at hi;rw[(z i).2 hm] at hi;cases hi
  ·exact(z j).1 (zg hw j (by rw[M];exact(Cs K).2 hj))
  ·rw[BR (P:=P) K,<-M] at E;rw[E] at L
   have F:∃o',ops[j]?=some o':=by
    cases u:ops[j]? with
    | some o'=>exact⟨o',Z⟩
    | none=>unfold gu at hl;rw[u] at hl;cases hl
   obtain⟨o',u⟩:=F;obtain⟨y,hy,A⟩:=Ag (P:=P) u;have h4:=qD L j y hy;have C:hasB D_ j=true:=by rw[jx];exact(z j).2 hj
   rw[C] at h4;simp only[cond_true] at h4;rw[sA hx];cases R:hasB x.a j with
   | true=>rw[jx] at R;exact .inl R
   | false=>
    rw[R] at h4;rw[wU (P:=P) u,<-A] at hl;rw[hl] at h4;simp only[cond_true,cond_false] at h4;rw[jx] at h4;exact .inr<|kH.1 h4
  ·rw[BR (P:=P) K,<-M] at E;rw[E] at L;have u:ops[j]?=some ops[j]:=aG_ hj;obtain⟨y,hy,A⟩:=Ag (P:=P) u;have h4:=qD L j y hy
   have C:hasB D_ j=false:=by
    rw[jx];cases hb:D_.testBit j with
    | false=>rfl
    | true=>exact absurd ((z j).1 hb) hn
   rw[C] at h4;simp only[cond_false] at h4;cases hb:Nat.beq j i with
   | true=>exact absurd (nB hb) Q
   | false=>
    rw[hb] at h4;simp only[cond_false] at h4;cases G:yq y.r.w D_ with
    | true=>rw[G] at h4;cases h4
    | false=>
     obtain⟨e,g1,g2⟩:=EB G;rw[A] at g1;exact⟨e,(Cs u).1 g1,fun hm=>by rw[(z e).2 hm] at g2;cases g2⟩
  rw[ni,uw,Bool.or_eq_true,z,mQ_,decide_eq_true_eq];exact⟨fun h=>h.elim .inr (fun h=>.inl h.symm),fun h=>h.elim (fun h=>.inr h.symm) .inl⟩
theorem KJ {P:Program} {ops:Array Oper} (h:sb P ops=true):Shape P ops (zB P ops)/\ES P ops (zB P ops) (jB P ops) []:=by
 obtain⟨h1,h2⟩:=mq h;exact⟨Jz h1,vZ _ 0 [] (fun j=>by simp) h2⟩
def Li (listed:Array Bool) (i:Nat):Prop:=listed.getD i false=true
theorem Li.lt {listed:Array Bool} {i:Nat} (h:Li listed i):i<listed.size:=by
 unfold Li at h;rcases Nat.lt_or_ge i listed.size with h' | h'
 ·exact h'
 simp[Array.getD_eq_getD_getElem?,Array.getElem?_eq_none h'] at h
theorem I9 {listed:Array Bool} {i:Nat} (hi:i<listed.size):listed.getD i true=false↔¬Li listed i:=by
 simp[Li,Array.getD_eq_getD_getElem?,hi]
theorem zy {listed:Array Bool} {i j:Nat} (hi:i<listed.size):Li (listed.setIfInBounds i true) j↔j=i∨Li listed j:=by
 unfold Li;simp only[Array.getD_eq_getD_getElem?,Array.getElem?_setIfInBounds]
 by_cases e:i=j
 ·subst e;simp[hi]
 simp[e,Ne.symm e]
def dE:V->Option Pos
 | .ptr b _=>some b
 | .slice b _ _ _=>some b
 | .map b=>some b
 | _=>none
theorem zE (mk:Mk) (b:Pos):dE (mk.of b)=some b:=by cases mk<;>rfl
def m6 (P:Program) (G:Cx) (t:N V) (U:D) (S:dh) (lo:Nat) (ti:N V) (o:Oper):Prop:=
 match kindOf P o.op with
 | .pure=>∃v,di P (bE G ti) o.op=some v/\∀k,o.dst=some k->t.get (posOf k)=some v
 | .read=>∃v,gW P (bE G ti) U o.op=some v/\∀k,o.dst=some k->t.get (posOf k)=some v
 | .alloc=>∃ob mk b,gi P (bE G ti) o.op=some (ob,mk)/\U.m.get b=some ob/\S b=none/\lo<=b.num/\b.num<U.next.num/\∀k,o.dst=some k->t.get (posOf k)=some (mk.of b)
 | .jW=>False
def ri (P:Program) (G:Cx) (ops:Array Oper) (A:Array Nat) (t₀ t:N V) (U:D) (S:dh) (lo:Nat) (i:Nat):Prop:=
 ∃o ti,ops[i]?=some o/\
  (∀k∈slotsOf ops o,∀j,ru A i j=true->fe ops j=some k->ti.get (posOf k)=t.get (posOf k))/\
  (∀k∈slotsOf ops o,(∀j,fe ops j=some k->ru A i j=false)->ti.get (posOf k)=t₀.get (posOf k))/\
  ∃bw,bM ops ti o=some bw/\(bw=false->∀k,o.dst=some k->t.get (posOf k)=some unit)/\(bw=true->m6 P G t U S lo ti o)
section
variable {P:Program} {G:Cx} {ops:Array Oper} {A:Array Nat} {t₀ t t₁:N V} {U U1:D} {S S1:dh} {lo i:Nat}
theorem wG {o:Oper} {j:Nat} {want:Bool} {k:Nat} (u:o.guard=some (j,want)) (hk:(ops[j]?).bind (·.dst)=some k):k∈slotsOf ops o:=by
 unfold slotsOf;rw[u];simp[hk]
theorem z8 {o:Oper} {k:Nat} (h:Operand.tmp k∈o.op.operands):k∈slotsOf ops o:=by
 unfold slotsOf;refine List.mem_append_left _<|List.mem_filterMap.2 ⟨.tmp k,by simpa using h,Z⟩
theorem kX {o:Oper} {ti tj:N V} (h:∀k∈slotsOf ops o,ti.get (posOf k)=tj.get (posOf k)):bM ops ti o=bM ops tj o:=by
 unfold bM;cases u:o.guard with
 | none=>rfl
 | some jw=>
  obtain⟨j,want⟩:=jw;dsimp only;cases hk:(ops[j]?).bind (·.dst) with
  | none=>rfl
  | some k=>dsimp only;rw[h k<|wG u hk]
theorem ri.LX (hp:ri P G ops A t₀ t U S lo i) (h:∀k,(fe ops i=some k∨∃j,ru A i j=true/\fe ops j=some k)->t₁.get (posOf k)=t.get (posOf k)):ri P G ops A t₀ t₁ U S lo i:=by
 obtain⟨o,ti,z,h1,h2,bw,E,h4,h5⟩:=hp;have u:∀k,o.dst=some k->t₁.get (posOf k)=t.get (posOf k):=fun k hk=>h k (.inl (by rw[iM z];exact hk))
 refine⟨o,ti,z,fun k hk j C hj=>(h1 k hk j C hj).trans (h k (.inr ⟨j,C,hj⟩)).symm,h2,bw,E,fun hb k hk=>(u k hk).trans (h4 hb k hk),fun hb=>?_⟩;have:=h5 hb;unfold m6 at this⊢;split at this
 ·obtain⟨v,g1,g2⟩:=this;exact⟨v,g1,fun k hk=>(u k hk).trans (g2 k hk)⟩
 ·obtain⟨v,g1,g2⟩:=this;exact⟨v,g1,fun k hk=>(u k hk).trans (g2 k hk)⟩
 ·obtain⟨ob,mk,b,g1,g2,F,K,L,M⟩:=this;exact⟨ob,mk,b,g1,g2,F,K,L,fun k hk=>(u k hk).trans (M k hk)⟩
 exact this
theorem ri.grow (hp:ri P G ops A t₀ t U S lo i) (h:∀b o,U.m.get b=some o->U1.m.get b=some o) (hn:U.next.num<=U1.next.num):ri P G ops A t₀ t U1 S lo i:=by
 obtain⟨o,ti,u,h1,h2,bw,z,h4,h5⟩:=hp;refine⟨o,ti,u,h1,h2,bw,z,h4,fun hb=>?_⟩;have:=h5 hb;unfold m6 at this⊢;split at this
 ·exact this
 ·obtain⟨v,g1,g2⟩:=this;exact⟨v,He h g1,g2⟩
 ·obtain⟨ob,mk,b,g1,g2,C,E,g5,F⟩:=this;exact⟨ob,mk,b,g1,h b ob g2,C,E,by omega,F⟩
 exact this
theorem ri.Qw (hp:ri P G ops A t₀ t U S lo i) (E:Shape P ops A) (h:∀b,(∃o k v,ops[i]?=some o/\kindOf P o.op= .alloc/\fe ops i=some k/\t.get (posOf k)=some v/\dE v=some b)->S b=none->S1 b=none):ri P G ops A t₀ t U S1 lo i:=by
 obtain⟨o,ti,u,h1,h2,bw,F,h4,h5⟩:=hp;refine⟨o,ti,u,h1,h2,bw,F,h4,fun hb=>?_⟩;have:=h5 hb;unfold m6 at this⊢;split at this
 ·exact this
 ·exact this
 ·rename_i hk;obtain⟨ob,mk,b,g1,g2,K,L,M,C⟩:=this;obtain⟨k,z⟩:=E.dst i o u (by simp[gu,tT,u,hk]);exact⟨ob,mk,b,g1,g2,h b ⟨o,k,_,u,hk,by rw[iM u];exact z,C k z,zE mk b⟩ K,L,M,C⟩
 exact this
theorem ri.again (hp:ri P G ops A t₀ t U S lo i) (hs:Shape P ops A) (h:∀k,(fe ops i=some k∨∃j,ru A i j=true/\fe ops j=some k)->t₁.get (posOf k)=t.get (posOf k))
  (h0:∀k,(∀j,fe ops j≠some k)->t₁.get (posOf k)=t₀.get (posOf k)) (E:gu P ops i=true->jh P G ops t₁ U1 i=true)
  (hr:∀b:Pos,b.num<U.next.num->S1 b=S b) (hn:U.next.num<=U1.next.num):ri P G ops A t₀ t₁ U1 S1 lo i:=by
 have hp1:=hp.LX h;obtain⟨o,ti,L,h1,h2,bw,X,h4,h5⟩:=hp1;cases hb:bw with
 | false=>exact⟨o,ti,L,h1,h2,bw,X,h4,fun am=>absurd am (by rw[hb];simp)⟩
 | true=>
  have hv:=h5 hb;subst hb;cases hk:kindOf P o.op with
  | pure=>
   refine⟨o,ti,L,h1,h2,true,X,h4,fun _=>?_⟩;unfold m6 at hv⊢;rw[hk] at hv⊢;exact hv
  | jW=>unfold m6 at hv;rw[hk] at hv;exact hv.elim
  | read=>
   have hl:gu P ops i=true:=by simp[gu,tT,L,hk]
   have C:∀k∈slotsOf ops o,t₁.get (posOf k)=ti.get (posOf k):=fun k z=>by
    by_cases hw:∃j,fe ops j=some k
    ·obtain⟨j,hj⟩:=hw;rcases hs.look i o j k L hj z with M | ⟨K,_⟩
     ·exact(h1 k z j M hj).symm
     rw[hl] at K;cases K
    rw[h0 k (fun j hj=>hw ⟨j,hj⟩),h2 k z (fun j hj=>absurd ⟨j,hj⟩ hw)]
   have aq:=E hl;unfold jh at aq;rw[L] at aq;dsimp only at aq;rw[kX C,X] at aq;dsimp only at aq;refine⟨o,t₁,L,fun _ _ _ _ _=>Z,fun k z hj=>(C k z).trans (h2 k z hj),true,by rw[kX C];exact X,fun h'=>(by cases h'),fun _=>?_⟩;unfold m6;rw[hk];split at aq
   ·rename_i k Q;split at aq
    ·rename_i v ao;rw[hk] at aq;dsimp only at aq;split at aq
     ·rename_i u hu;have:=Kl aq;subst this;exact⟨u,hu,fun k' aa=>by rw[Q] at aa;cases aa;exact ao⟩
     cases aq
    cases aq
   cases aq
  | alloc=>
   have hl:gu P ops i=true:=by simp[gu,tT,L,hk]
   have C:∀k∈slotsOf ops o,t₁.get (posOf k)=ti.get (posOf k):=fun k z=>by
    by_cases hw:∃j,fe ops j=some k
    ·obtain⟨j,hj⟩:=hw;rcases hs.look i o j k L hj z with M | ⟨K,_⟩
     ·exact(h1 k z j M hj).symm
     rw[hl] at K;cases K
    rw[h0 k (fun j hj=>hw ⟨j,hj⟩),h2 k z (fun j hj=>absurd ⟨j,hj⟩ hw)]
   have aq:=E hl;unfold jh at aq;rw[L] at aq;dsimp only at aq;rw[kX C,X] at aq;dsimp only at aq;refine⟨o,t₁,L,fun _ _ _ _ _=>Z,fun k z hj=>(C k z).trans (h2 k z hj),true,by rw[kX C];exact X,fun h'=>(by cases h'),fun _=>?_⟩;unfold m6 at hv⊢;rw[hk] at hv⊢;dsimp only at hv⊢;obtain⟨ob,mk,b,g1,g2,g3,g4,g5,g6⟩:=hv;split at aq
   ·rename_i k Q;have g6':=g6 k Q;rw[g6'] at aq;dsimp only at aq;rw[hk] at aq;dsimp only at aq;have ab:S1 b=none:=by rw[hr b g5];exact g3
    split at aq
    ·rename_i cs e b' M F;split at aq
     ·rename_i cs' e' R;rw[bA_] at aq;have e1:=nB aq.1;have e2:=vo aq.2;subst e1;subst e2;have ac:b'=b:=by cases mk<;>simp[Mk.of] at F<;>exact F.symm
      have W:mk= .ptr:=by cases mk<;>simp[Mk.of] at F<;>rfl
      subst ac;subst W;exact⟨_,_,b',M,R,ab,g4,by omega,g6⟩
     cases aq
    ·rename_i cs e n c b' n' c' M F;split at aq
     ·rename_i cs' e' R;simp only[bA_] at aq;have e1:=nB aq.1.1.1;have e2:=vo aq.1.1.2;have e3:=nB aq.1.2;have e4:=nB aq.2;subst e1;subst e2;subst e3;subst e4;have W:b'=b/\mk= .slice n c:=by cases mk<;>simp[Mk.of] at F<;>(obtain⟨q1,q2,q3⟩:=F;subst q1;subst q2;subst q3;exact⟨Z,Z⟩)
      obtain⟨rfl,rfl⟩:=W;exact⟨_,_,b',M,R,ab,g4,by omega,g6⟩
     cases aq
    cases aq
   cases aq
end
theorem mQ {t t₁:N V} {n:Nat} {dst:Option Nat} {v:V} (h:dI t n dst v=some t₁):
  (∀k,dst≠some k->t₁.get (posOf k)=t.get (posOf k))/\(∀k,dst=some k->k<n/\t₁.get (posOf k)=some v):=by
 cases dst with
 | none=>cases h;exact⟨fun _ _=>Z,fun k hk=>by cases hk⟩
 | some j=>
  obtain⟨hj,rfl⟩:=ua h;refine⟨fun k hk=>N.dv _ _ _ _ (fun e=>hk (by rw[qW e])),fun k hk=>?_⟩;cases hk;exact⟨hj,N.dA _ _ _⟩
theorem Jm {a:Act} {dst:Option Tmp} {x:Value}:(∀k,dst≠some k->(a.put dst x).tmps.getD k undef=a.tmps.getD k undef)/\(∀k,dst=some k->k<a.tmps.size->(a.put dst x).tmps.getD k undef=x)/\(a.put dst x).tmps.size=a.tmps.size:=by
 cases dst with
 | none=>exact⟨fun _ _=>Z,(fun k hk=>by cases hk),Z⟩
 | some j=>
  refine⟨fun k hk=>?_,fun k hk u=>?_,by simp[Act.put]⟩
  ·have:j≠k:=fun e=>hk (by rw[e])
   simp[Act.put,Array.getD_eq_getD_getElem?,Array.getElem?_setIfInBounds,this]
  cases hk;simp[Act.put,Array.getD_eq_getD_getElem?,Array.getElem?_setIfInBounds,u]
theorem df {α:Type} {x y:α} {l:List α} (h:x∈y::l):x=y∨x∈l:=mQ_.1 h
structure J_ (P:Program) (G:Cx) (ih:lf) (ops:Array Oper) (A:Array Nat) (n:Nat) (d:List DE) (fin:CR) (ρ₀:dh) (σ₀:D) (w₀:World) (t₀:N V)
  (l:List (Nat×List Nat)) (done:List Nat) (t:N V) (U:D) (listed:Array Bool) (S:dh) (w:World) (a:Act):Prop where
 run:ke P G ih ops n d l t U=fin
 ok:ES P ops A l done
 inv:Inv S U w
 L7:eY ρ₀ σ₀ w₀ S U w
 dr:DR S d a.defers
 gr:GR S G
 L9:a.tmps.size=n
 Ka:listed.size=ops.size
 Mu:∀i∈done,i<ops.size
 ord:Ord ops done
 sub:∀i,Li listed i->i∈done
 jW:∀i∈done,jX P ops i=true->Li listed i
 closed:∀i j,j<ops.size->Li listed i->ru A i j=true->Li listed j
 lR:∀i j,j<ops.size->i∈done->ru A i j=true->j∈done
 NL:∀i∈done,∀k,fe ops i=some k->k<n
 Cy:∀i k v,Li listed i->fe ops i=some k->t.get (posOf k)=some v->H S v (a.tmps.getD k undef)
 Cw:∀k v,(∀i,Li listed i->fe ops i≠some k)->t₀.get (posOf k)=some v->k<n/\H S v (a.tmps.getD k undef)
 same:∀k,(∀i∈done,fe ops i≠some k)->t.get (posOf k)=t₀.get (posOf k)
 Ci:∀i∈done,¬Li listed i->ri P G ops A t₀ t U S σ₀.next.num i
 apart:∀i j o o' k k' v v' b,i∈done->j∈done->¬Li listed i->¬Li listed j->ops[i]?=some o->ops[j]?=some o'->kindOf P o.op= .alloc->kindOf P o'.op= .alloc->
  fe ops i=some k->fe ops j=some k'->t.get (posOf k)=some v->t.get (posOf k')=some v'->dE v=some b->dE v'=some b->i=j
section
variable {P:Program} {G:Cx} {ih:lf} {ops:Array Oper} {A:Array Nat} {n:Nat} {d:List DE} {fin:CR} {ρ₀:dh} {σ₀:D} {w₀:World} {t₀:N V}
variable {l:List (Nat×List Nat)} {done:List Nat} {t:N V} {U:D} {listed:Array Bool} {S:dh} {w:World} {a:Act}
theorem vJ (u:Shape P ops A) {i:Nat} (hi:i<ops.size) (hw:∀j,waits ops i j=true->j∈done) (z:∀i j,j<ops.size->i∈done->ru A i j=true->j∈done):∀j,j<ops.size->ru A i j=true->j∈done:=fun j hj C=>by
 rcases u.ru i j hi hj C with h | ⟨q,h1,h2⟩
 ·exact hw j h
 exact z q j hj (hw q h1) h2
theorem vK (u:Shape P ops A) {i:Nat} (hi:i<ops.size) (hw:∀j,waits ops i j=true->Li listed j) (z:∀i j,j<ops.size->Li listed i->ru A i j=true->Li listed j):∀j,j<ops.size->ru A i j=true->Li listed j:=fun j hj C=>by
 rcases u.ru i j hi hj C with h | ⟨q,h1,h2⟩
 ·exact hw j h
 exact z q j hj (hw q h1) h2
theorem J_.wI (F:Shape P ops A) (hj:J_ P G ih ops A n d fin ρ₀ σ₀ w₀ t₀ l done t U listed S w a) {i:Nat} {o:Oper} (E:ops[i]?=some o) (hn:i∉done):
  ∀k∈slotsOf ops o,(∀j,fe ops j=some k->ru A i j=false)->t.get (posOf k)=t₀.get (posOf k):=fun k hk C=>by
 refine hj.same k fun j u z=>?_
 rcases F.look i o j k E z hk with h | ⟨_,h | h⟩
 ·rw[C j z] at h;cases h
 ·subst h;exact hn u
 exact hn<|hj.lR j i (aS_.1 E).1 u h
theorem J_.look (F:Shape P ops A) (hj:J_ P G ih ops A n d fin ρ₀ σ₀ w₀ t₀ l done t U listed S w a) {i:Nat} {o:Oper} {ti:N V} (C:ops[i]?=some o) (hn:¬Li listed i) (K:∀j,j<ops.size->ru A i j=true->Li listed j)
  (h1:∀k∈slotsOf ops o,∀j,ru A i j=true->fe ops j=some k->ti.get (posOf k)=t.get (posOf k)) (h2:∀k∈slotsOf ops o,(∀j,fe ops j=some k->ru A i j=false)->ti.get (posOf k)=t₀.get (posOf k)):
  ∀k∈slotsOf ops o,∀v,ti.get (posOf k)=some v->k<n/\H S v (a.tmps.getD k undef):=fun k hk v hv=>by
 by_cases hw:∃j,fe ops j=some k/\ru A i j=true
 ·obtain⟨j,u,E⟩:=hw;have hL:=K j (mA u) E;rw[h1 k hk j E u] at hv;exact⟨hj.NL j (hj.sub j hL) k u,hj.Cy j k v hL u hv⟩
 have z:∀j,fe ops j=some k->ru A i j=false:=fun j u=>by
  cases h:ru A i j with
  | false=>rfl
  | true=>exact absurd ⟨j,u,h⟩ hw
 rw[h2 k hk z] at hv;refine hj.Cw k v (fun j hL u=>?_) hv;rcases F.look i o j k C u hk with h | ⟨_,h | h⟩
 ·rw[z j u] at h;cases h
 ·subst h;exact hn hL
 exact hn<|hj.closed j i (aS_.1 C).1 hL h
theorem Ft {ti:N V} {o:Oper} (u:GR S G) (h:∀k∈slotsOf ops o,∀v,ti.get (posOf k)=some v->k<n/\H S v (a.tmps.getD k undef)):ER S (bE G ti) a.eval o.op:=fun x hx v hv=>by
 cases x with
 | tmp k=>exact(h k (z8 hx) v hv).2
 | const c=>exact kF (t:=.leaf) (n:=a.tmps.size) u ⟨Z,fun k v hk=>by rw[N.mE] at hk;cases hk⟩ hv
 | global g=>exact kF (t:=.leaf) (n:=a.tmps.size) u ⟨Z,fun k v hk=>by rw[N.mE] at hk;cases hk⟩ hv
 | func f=>exact kF (t:=.leaf) (n:=a.tmps.size) u ⟨Z,fun k v hk=>by rw[N.mE] at hk;cases hk⟩ hv
theorem uP {ti:N V} {o:Oper} {b:Bool} (u:a.tmps.size=n) (h:∀k∈slotsOf ops o,∀v,ti.get (posOf k)=some v->k<n/\H S v (a.tmps.getD k undef)) (hw:bM ops ti o=some b):Region.wanted o (yielded ops a.tmps)=b:=
 zn hw fun j want k z hk v hv=>by
  have:=h k (wG z hk) v hv;rw[u];exact this
theorem J_.ahead (hs:Shape P ops A) {i:Nat} {rc:List Nat} (hj:J_ P G ih ops A n d fin ρ₀ σ₀ w₀ t₀ ((i,rc)::l) done t U listed S w a) (hl:jX P ops i=false) {o:Oper} (ho:ops[i]?=some o) {v:V} {t₁:N V} {X:D}
  (hp:dI t n o.dst v=some t₁) (am:ke P G ih ops n d l t₁ X=fin) (hinv:Inv S X w) (aq:eY S U w S X w) (ao:∀b o,U.m.get b=some o->X.m.get b=some o)
  (R:∀b,dE v=some b->kindOf P o.op= .alloc->U.next.num<=b.num) (aa:ri P G ops A t₀ t₁ X S σ₀.next.num i):J_ P G ih ops A n d fin ρ₀ σ₀ w₀ t₀ l (i::done) t₁ X listed S w a:=by
 obtain⟨hh,ar⟩:=hj.ok;obtain⟨f1,f2⟩:=mQ hp;have E:fe ops i=o.dst:=iM ho;have aI:¬Li listed i:=fun h=>hh.new (hj.sub i h)
 have z:∀j∈done,∀k,fe ops j=some k->t₁.get (posOf k)=t.get (posOf k):=fun j C k hk=>f1 k fun e=>by
  have:=hs.uniq i j k (by rw[E];exact e) hk;subst this;exact hh.new C
 have M:∀j∈done,¬Li listed j->ri P G ops A t₀ t₁ X S σ₀.next.num j:=fun j C F=>by
  refine((hj.Ci j C F).LX fun k hk=>?_).grow ao aq.next;rcases hk with hk | ⟨q,hq,hk⟩
  ·exact z j C k hk
  exact z q (hj.lR j q (mA hk) C hq) k hk
 have W:∀j o' k' v' b,j∈done->¬Li listed j->ops[j]?=some o'->kindOf P o'.op= .alloc->fe ops j=some k'->t₁.get (posOf k')=some v'->dE v'=some b->b.num<U.next.num:=fun j o' k' v' b C F ap hk hd hv hb=>by
  obtain⟨o'',ti,e,_,_,bw,_,h4,h5⟩:=hj.Ci j C F;rw[ap] at e;cases e;rw[z j C k' hd] at hv;rw[iM ap] at hd;cases bw with
  | false=>rw[h4 Z k' hd] at hv;cases hv;cases hb
  | true=>
   have:=h5 Z;unfold m6 at this;rw[hk] at this;obtain⟨ob,mk,b',g1,g2,g3,g4,g5,g6⟩:=this;rw[g6 k' hd] at hv;cases hv;rw[zE] at hb;cases hb;exact g5
 refine⟨am,ar,hinv,hj.L7.trans aq,hj.dr,hj.gr,hj.L9,hj.Ka,fun j h=>?_,⟨hh.dep,hj.ord⟩,fun j h=>mC_ _ (hj.sub j h),fun j h hv=>?_,hj.closed,fun j q hq h ha=>?_,fun j h k hk=>?_,fun j k u hL hk hu=>?_,hj.Cw,fun k hk=>?_,fun j h F=>?_,?_⟩
 ·rcases df h with rfl | h
  ·exact hh.lt
  exact hj.Mu j h
 ·rcases df h with rfl | h
  ·rw[hl] at hv;cases hv
  exact hj.jW j h hv
 ·rcases df h with rfl | h
  ·exact mC_ _<|vJ hs hh.lt hh.dep hj.lR q hq ha
  exact mC_ _<|hj.lR j q hq h ha
 ·rcases df h with rfl | h
  ·exact(f2 k (by rw[<-E];exact hk)).1
  exact hj.NL j h k hk
 ·rw[z j (hj.sub j hL) k hk] at hu;exact hj.Cy j k u hL hk hu
 ·rw[f1 k (fun e=>hk i (mS_ ..) (by rw[E];exact e))];exact hj.same k fun j h=>hk j (mC_ _ h)
 ·rcases df h with rfl | h
  ·exact aa
  exact M j h F
 intro j q o' o'' k k' u u' b h1 h2 h3 h4 h5 h6 h7 h8 h9 Q K L ab ac;rcases df h1 with rfl | m1<;>rcases df h2 with rfl | m2
 ·rfl
 ·rw[ho] at h5;cases h5;have:=W q o'' k' u' b m2 h4 h6 h8 Q L ac;have e:=(f2 k (by rw[<-E];exact h9)).2;rw[e] at K;cases K;have:=R b ab h7;omega
 ·rw[ho] at h6;cases h6;have:=W j o' k u b m1 h3 h5 h7 h9 K ab;have e:=(f2 k' (by rw[<-E];exact Q)).2;rw[e] at L;cases L;have:=R b ac h8;omega
 rw[z j m1 k h9] at K;rw[z q m2 k' Q] at L;exact hj.apart j q o' o'' k k' u u' b m1 m2 h3 h4 h5 h6 h7 h8 h9 Q K L ab ac
theorem Inv.Da (hi:Inv S U w) (ob:cG):zx S (U.alloc ob) w/\eY S U w S (U.alloc ob) w/\∀b o,U.m.get b=some o->(U.alloc ob).m.get b=some o:=by
 have z:S U.next=none:=(hi.fresh _<|nR_ _).1;have u:∀b,b≠U.next->(U.alloc ob).m.get b=U.m.get b:=fun b hb=>N.dv _ _ _ _ hb
 have back:∀b o l,(U.alloc ob).m.get b=some o->S b=some l->U.m.get b=some o:=fun b o l h hl=>by
  by_cases e:b=U.next
  ·subst e;rw[z] at hl;cases hl
  rw[u b e] at h;exact h
 refine⟨⟨fun b hb=>?_,hi.dE,fun b o l h hl=>hi.obj b o l (back b o l h hl) hl,fun b b' o o' l l' h1 h2 C h4=>hi.inj b b' o o' l l' (back b o l h1 C) (back b' o' l' h2 h4) C h4⟩,⟨fun _ _=>Z,?_,nR_ _,fun _ _ _=>Z,?_,Z,Z,Z⟩,fun b o h=>?_⟩
 ·have aa:U.next.num+1<=b.num:=by simpa [D.alloc,Pos.jt] using hb
  have E:b≠U.next:=fun e=>by subst e;omega
  rw[u b E];exact hi.fresh b B
 ·simp[D.alloc,Pos.jt]
 ·rintro r ⟨b,o,l,h1,h2,C,rfl⟩ _;exact⟨b,o,l,back b o l h1 C,h2,C,Z⟩
 by_cases e:b=U.next
 ·subst e;rw[(hi.fresh _<|nR_ _).2] at h;cases h
 rw[u b e];exact h
theorem Inv.ahead (hi:Inv S U w) (ob:cG):Inv S (U.alloc ob) w/\eY S U w S (U.alloc ob) w/\∀b o,U.m.get b=some o->(U.alloc ob).m.get b=some o:=
 let ⟨h1,h2,u⟩:=hi.Da ob;⟨⟨h1,hi.pI.of h2⟩,h2,u⟩
theorem D.GD (U:D) (ob:cG):(U.alloc ob).m.get U.next=some ob:=N.dA _ _ _
theorem J_.Oa (M:Shape P ops A) {i:Nat} {rc:List Nat} (hj:J_ P G ih ops A n d fin ρ₀ σ₀ w₀ t₀ ((i,rc)::l) done t U listed S w a) (hl:jX P ops i=false) (z:∀k,fin≠ .err k):
  ∃t₁ C,J_ P G ih ops A n d fin ρ₀ σ₀ w₀ t₀ l (i::done) t₁ C listed S w a:=by
 obtain⟨L,aa⟩:=hj.ok;obtain⟨o,F⟩:∃o,ops[i]?=some o:=⟨ops[i]' L.lt,aG_ L.lt⟩
 have u:(match ops[i]? with
   | some o=>ju P G ih false ops n o t U (fun t' U'=>bif dn P G ops t' U' rc then ke P G ih ops n d l t' U' else .err 86)
   | none=>.err 87)=fin:=hj.run
 rw[F] at u;dsimp only at u;have hhead:=hj.wI M F L.new
 have E:∀t₁ C,(bif dn P G ops t₁ C rc then ke P G ih ops n d l t₁ C else .err 86)=fin->ke P G ih ops n d l t₁ C=fin:=fun t₁ C h=>by
  rw[bA] at h;split at h
  ·exact h
  exact absurd h.symm<|z 86
 have K:∀{v:V} {t₁:N V},dI t n o.dst v=some t₁->∀k∈slotsOf ops o,∀j,ru A i j=true->fe ops j=some k->t.get (posOf k)=t₁.get (posOf k):=fun hp k hk j ha W=>by
  refine((mQ hp).1 k fun e=>?_).symm;have:=M.uniq i j k (by rw[iM F];exact e) W;subst this;exact L.new<|vJ M L.lt L.dep hj.lR i L.lt ha
 unfold ju at u;cases hw:bM ops t o with
 | none=>rw[hw] at u;exact absurd u.symm<|z 85
 | some bw=>
  rw[hw] at u;cases bw with
  | false=>
   dsimp only at u;cases hp:dI t n o.dst unit with
   | none=>rw[hp] at u;exact absurd u.symm<|z 84
   | some t₁=>
    rw[hp] at u;refine⟨t₁,U,hj.ahead M hl F hp (E _ _ u) hj.inv (eY.refl _ _ _) (fun _ _ h=>h) (fun b hb=>by cases hb) ?_⟩;exact⟨o,t,F,K hp,hhead,false,hw,fun _ k hk=>((mQ hp).2 k hk).2,fun h=>by cases h⟩
  | true=>
   dsimp only at u
   have main:∀(v:V) (C:D),lT P G ih (dW P G (bE G t) U o.op)= .ret v C->Inv S C w->eY S U w S C w->(∀b o,U.m.get b=some o->C.m.get b=some o)->
     (∀b,dE v=some b->kindOf P o.op= .alloc->U.next.num<=b.num)->(∀t₁,(∀k,o.dst=some k->t₁.get (posOf k)=some v)->m6 P G t₁ C S σ₀.next.num t o)->
     ∃t₁ C,J_ P G ih ops A n d fin ρ₀ σ₀ w₀ t₀ l (i::done) t₁ C listed S w a:=by
    intro v C he hinv aq Q R X;rw[he] at u;dsimp only at u;cases hp:dI t n o.dst v with
    | none=>rw[hp] at u;exact absurd u.symm<|z 80
    | some t₁=>
     rw[hp] at u;refine⟨t₁,C,hj.ahead M hl F hp (E _ _ u) hinv aq Q R ?_⟩;exact⟨o,t,F,K hp,hhead,true,hw,fun h=>(by cases h),fun _=>X t₁ fun k hk=>((mQ hp).2 k hk).2⟩
   cases hk:kindOf P o.op with
   | jW=>simp[jX,DN,F,hk] at hl
   | pure=>
    cases hv:di P (bE G t) o.op with
    | none=>
     have:lT P G ih (dW P G (bE G t) U o.op)= .err (Nat.add 1000<|sV o.op):=by unfold dW;rw[hk];dsimp only;rw[hv];rfl
     rw[this] at u;exact absurd u.symm<|z _
    | some v=>
     have:lT P G ih (dW P G (bE G t) U o.op)= .ret v U:=by unfold dW;rw[hk];dsimp only;rw[hv];rfl
     refine main v U this hj.inv (eY.refl _ _ _) (fun _ _ h=>h) (fun b _ h=>by rw[hk] at h;cases h) fun t₁ ht₁=>?_
     unfold m6;rw[hk];exact⟨v,hv,ht₁⟩
   | read=>
    cases hv:gW P (bE G t) U o.op with
    | none=>
     have:lT P G ih (dW P G (bE G t) U o.op)= .err (Nat.add 2000<|sV o.op):=by unfold dW;rw[hk];dsimp only;rw[hv];rfl
     rw[this] at u;exact absurd u.symm<|z _
    | some v=>
     have:lT P G ih (dW P G (bE G t) U o.op)= .ret v U:=by unfold dW;rw[hk];dsimp only;rw[hv];rfl
     refine main v U this hj.inv (eY.refl _ _ _) (fun _ _ h=>h) (fun b _ h=>by rw[hk] at h;cases h) fun t₁ ht₁=>?_
     unfold m6;rw[hk];exact⟨v,hv,ht₁⟩
   | alloc=>
    cases hv:gi P (bE G t) o.op with
    | none=>
     have:lT P G ih (dW P G (bE G t) U o.op)= .err (Nat.add 3000<|sV o.op):=by unfold dW;rw[hk];dsimp only;rw[hv];rfl
     rw[this] at u;exact absurd u.symm<|z _
    | some p=>
     obtain⟨ob,mk⟩:=p;have:lT P G ih (dW P G (bE G t) U o.op)= .ret (mk.of U.next) (U.alloc ob):=by unfold dW;rw[hk];dsimp only;rw[hv];rfl
     obtain⟨g1,g2,g3⟩:=hj.inv.ahead ob;refine main _ _ this g1 g2 g3 (fun b hb _=>by rw[zE] at hb;cases hb;exact nR_ _) fun t₁ ht₁=>?_
     unfold m6;rw[hk];exact⟨ob,mk,U.next,hv,D.GD U ob,(hj.inv.fresh _<|nR_ _).1,hj.L7.next,by simp[D.alloc,Pos.jt],ht₁⟩
theorem J_.advance (C:Shape P ops A) (u:∀k,fin≠ .err k):∀(l:List (Nat×List Nat)) (done:List Nat) (t:N V) (U:D),J_ P G ih ops A n d fin ρ₀ σ₀ w₀ t₀ l done t U listed S w a->
  ∃l' done' t' U',J_ P G ih ops A n d fin ρ₀ σ₀ w₀ t₀ l' done' t' U' listed S w a/\(l'= []∨∃i rc r,l'=(i,rc)::r/\jX P ops i=true)
 | [],done,t,U,hj=>⟨[],done,t,U,hj,.inl Z⟩
 | (i,rc)::l,done,t,U,hj=>by
  cases hl:jX P ops i with
  | true=>exact⟨_,done,t,U,hj,.inr ⟨i,rc,l,Z,hl⟩⟩
  | false=>
   obtain⟨t₁,E,z⟩:=hj.Oa C hl u;exact J_.advance C u l _ t₁ E z
end
section
variable {P:Program} {G:Cx} {ih:lf} {ops:Array Oper} {A:Array Nat} {n:Nat} {d:List DE} {fin:CR} {ρ₀:dh} {σ₀:D} {w₀:World} {t₀:N V}
variable {l:List (Nat×List Nat)} {done:List Nat} {t:N V} {U:D} {listed:Array Bool} {S:dh} {w:World} {a:Act}
theorem J_.behind (R:Shape P ops A) (hj:J_ P G ih ops A n d fin ρ₀ σ₀ w₀ t₀ l done t U listed S w a) {i:Nat} {o:Oper} {x:Value} {F:dh} {w₁:World} (W:ops[i]?=some o) (E:i∈done) (hn:¬Li listed i)
  (X:∀j,j<ops.size->ru A i j=true->Li listed j) (hv:∀k v,o.dst=some k->t.get (posOf k)=some v->H F v x) (hinv:Inv F U w₁) (aq:eY ρ₀ σ₀ w₀ F U w₁) (hle:S.le F)
  (K:∀j∈done,¬Li listed j->j≠i->ri P G ops A t₀ t U F σ₀.next.num j):J_ P G ih ops A n d fin ρ₀ σ₀ w₀ t₀ l done t U (listed.setIfInBounds i true) F w₁ (a.put o.dst x):=by
 have L:i<listed.size:=by rw[hj.Ka];exact hj.Mu i E
 have C:fe ops i=o.dst:=iM W;obtain⟨M,p2,p3⟩:=Jm (a:=a) (dst:=o.dst) (x:=x);have z:∀{j},Li (listed.setIfInBounds i true) j↔j=i∨Li listed j:=zy L
 refine⟨hj.run,hj.ok,hinv,aq,by rw[put_defers];exact hj.dr.mono hle,hj.gr.mono hle,by rw[p3];exact hj.L9,by simpa using hj.Ka,hj.Mu,hj.ord,fun j h=>?_,fun j h hh=>z.2 (.inr<|hj.jW j h hh),fun j q hq h Q=>?_,hj.lR,hj.NL,
  fun j k v h hk hu=>?_,fun k v h hu=>?_,hj.same,fun j h hl=>?_,?_⟩
 ·rcases z.1 h with rfl | h
  ·exact E
  exact hj.sub j h
 ·rcases z.1 h with rfl | h
  ·exact z.2 (.inr<|X q hq Q)
  exact z.2 (.inr<|hj.closed j q hq h Q)
 ·by_cases e:j=i
  ·subst e;rw[C] at hk;rw[p2 k hk (by rw[hj.L9];exact hj.NL j E k (by rw[C];exact hk))];exact hv k v hk hu
  have hL:=(z.1 h).resolve_left e;rw[M k (fun e'=>e (R.uniq j i k hk (by rw[C];exact e')))];exact H.mono hle _ _<|hj.Cy j k v hL hk hu
 ·rw[M k (fun e'=>h i (z.2 (.inl Z)) (by rw[C];exact e'))];obtain⟨q1,q2⟩:=hj.Cw k v (fun j hL=>h j (z.2 (.inr hL))) hu;exact⟨q1,H.mono hle _ _ q2⟩
 ·exact K j h (fun hL=>hl (z.2 (.inr hL))) (fun e=>hl (z.2 (.inl e)))
 intro j q o' o'' k k' u u' b h1 h2 h3 h4;exact hj.apart j q o' o'' k k' u u' b h1 h2 (fun hL=>h3 (z.2 (.inr hL))) (fun hL=>h4 (z.2 (.inr hL)))
theorem te {t₁:N V} {u:D}:∀{rc:List Nat} {j:Nat},dn P G ops t₁ u rc=true->j∈rc->jh P G ops t₁ u j=true
 | [],j,_,hj=>by cases hj
 | i::rc,j,h,hj=>by
  have h':(bif jh P G ops t₁ u i then dn P G ops t₁ u rc else false)=true:=h;rw[bA] at h';split at h'
  ·rename_i hi;rcases df hj with rfl | hj
   ·exact hi
   exact te h' hj
  cases h'
theorem J_.OA (hs:Shape P ops A) {i:Nat} {rc:List Nat} (hj:J_ P G ih ops A n d fin ρ₀ σ₀ w₀ t₀ ((i,rc)::l) done t U listed S w a) (hl:jX P ops i=true) {o:Oper} (ho:ops[i]?=some o)
  (hr:∀j,j<ops.size->ru A i j=true->Li listed j) {v:V} {x:Value} {t₁:N V} {Q:D} {S1:dh} {w₁:World} (hp:dI t n o.dst v=some t₁) (K:dn P G ops t₁ Q rc=true) (R:ke P G ih ops n d l t₁ Q=fin)
  (hv:H S1 v x) (hinv:Inv S1 Q w₁) (aq:eY S U w S1 Q w₁):J_ P G ih ops A n d fin ρ₀ σ₀ w₀ t₀ l (i::done) t₁ Q (listed.setIfInBounds i true) S1 w₁ (a.put o.dst x):=by
 obtain⟨L,am⟩:=hj.ok;obtain⟨f1,f2⟩:=mQ hp;have hle:=aq.le hj.inv;have ao:i<listed.size:=by rw[hj.Ka];exact L.lt
 have E:fe ops i=o.dst:=iM ho;obtain⟨p1,p2,p3⟩:=Jm (a:=a) (dst:=o.dst) (x:=x);have z:∀{j},Li (listed.setIfInBounds i true) j↔j=i∨Li listed j:=zy ao;have a0:¬Li listed i:=fun h=>L.new (hj.sub i h)
 have C:∀j∈done,∀k,fe ops j=some k->t₁.get (posOf k)=t.get (posOf k):=fun j F k hk=>f1 k fun e=>by
  have:=hs.uniq i j k (by rw[E];exact e) hk;subst this;exact L.new F
 refine⟨R,am,hinv,hj.L7.trans aq,by rw[put_defers];exact hj.dr.mono hle,hj.gr.mono hle,by rw[p3];exact hj.L9,by simpa using hj.Ka,fun j h=>?_,⟨L.dep,hj.ord⟩,fun j h=>?_,fun j h hv=>?_,fun j q hq h M=>?_,fun j q hq h M=>?_,fun j h k hk=>?_,
  fun j k u h hk hu=>?_,fun k u h hu=>?_,fun k hk=>?_,fun j h W=>?_,?_⟩
 ·rcases df h with rfl | h
  ·exact L.lt
  exact hj.Mu j h
 ·rcases z.1 h with rfl | h
  ·exact mS_ ..
  exact mC_ _<|hj.sub j h
 ·rcases df h with rfl | h
  ·exact z.2 (.inl Z)
  exact z.2 (.inr<|hj.jW j h hv)
 ·rcases z.1 h with rfl | h
  ·exact z.2 (.inr<|hr q hq M)
  exact z.2 (.inr<|hj.closed j q hq h M)
 ·rcases df h with rfl | h
  ·exact mC_ _<|vJ hs L.lt L.dep hj.lR q hq M
  exact mC_ _<|hj.lR j q hq h M
 ·rcases df h with rfl | h
  ·exact(f2 k (by rw[<-E];exact hk)).1
  exact hj.NL j h k hk
 ·by_cases e:j=i
  ·subst e;rw[E] at hk;obtain⟨q1,q2⟩:=f2 k hk;rw[p2 k hk (by rw[hj.L9];exact q1)];rw[q2] at hu;cases hu;exact hv
  have hL:=(z.1 h).resolve_left e;rw[p1 k (fun e'=>e (hs.uniq j i k hk (by rw[E];exact e')))];rw[C j (hj.sub j hL) k hk] at hu;exact H.mono hle _ _<|hj.Cy j k u hL hk hu
 ·rw[p1 k (fun e'=>h i (z.2 (.inl Z)) (by rw[E];exact e'))];obtain⟨q1,q2⟩:=hj.Cw k u (fun j hL=>h j (z.2 (.inr hL))) hu;exact⟨q1,H.mono hle _ _ q2⟩
 ·rw[f1 k (fun e=>hk i (mS_ ..) (by rw[E];exact e))];exact hj.same k fun j h=>hk j (mC_ _ h)
 ·have ap:j≠i:=fun e=>W (z.2 (.inl e))
  have X:¬Li listed j:=fun hL=>W (z.2 (.inr hL))
  have F:j∈done:=(df h).resolve_left ap;refine(hj.Ci j F X).again hs (fun k hk=>?_) (fun k hk=>?_) (fun ar=>?_) (fun b hb=>aq.ext b hb) aq.next
  ·rcases hk with hk | ⟨q,hq,hk⟩
   ·exact C j F k hk
   exact C q (hj.lR j q (mA hk) F hq) k hk
  ·rw[f1 k (fun e=>hk i (by rw[E];exact e))];exact hj.same k fun j _=>hk j
  rcases L.again hl j F ar with M | hm
  ·exact absurd (hr j (hj.Mu j F) M) X
  exact te K hm
 intro j q o' o'' k k' u u' b h1 h2 h3 h4 h5 h6 h7 h8 h9 aa ab ac aI aY;have m1:j∈done:=(df h1).resolve_left fun e=>h3 (z.2 (.inl e))
 have m2:q∈done:=(df h2).resolve_left fun e=>h4 (z.2 (.inl e))
 rw[C j m1 k h9] at ab;rw[C q m2 k' aa] at ac;exact hj.apart j q o' o'' k k' u u' b m1 m2 (fun hL=>h3 (z.2 (.inr hL))) (fun hL=>h4 (z.2 (.inr hL))) h5 h6 h7 h8 h9 aa ab ac aI aY
theorem Cn {i:Nat} (z:listed.size=ops.size) (h:i∈Region.ready .any ops listed):i<ops.size/\¬Li listed i/\∀j,waits ops i j=true->Li listed j:=by
 obtain⟨h1,o,C,h2⟩:=mem_ready.1 h;have hlt:=(aS_.1 C).1;refine⟨hlt,(I9 (by rw[z];exact hlt)).1 h1,fun j hw=>?_⟩;obtain⟨o',u,e,he,hb,rfl⟩:=ra.1 hw;rw[C] at u;cases u;exact h2 e he hb
theorem Cm {i:Nat} (z:listed.size=ops.size) (u:i<ops.size) (hn:¬Li listed i) (hw:∀j,waits ops i j=true->Li listed j):i∈Region.ready .any ops listed:=
 mem_ready.2 ⟨(I9 (by rw[z];exact u)).2 hn,ops[i]' u,aG_ u,fun e he hb=>hw _ (ra.2 ⟨_,aG_ u,e,he,hb,Z⟩)⟩
theorem y8:∀{done:List Nat},Ord ops done->(∃i∈done,¬Li listed i)->∃i∈done,¬Li listed i/\∀j,waits ops i j=true->Li listed j
 | [],_,⟨i,hi,_⟩=>by cases hi
 | i::r,z,⟨q,hq,hn⟩=>by
  by_cases C:∃j∈r,¬Li listed j
  ·obtain⟨j,h1,h2,E⟩:=y8 z.2 C;exact⟨j,mC_ _ h1,h2,E⟩
  have u:∀j∈r,Li listed j:=fun j hj=>Classical.byContradiction fun h=>C ⟨j,hj,h⟩
  rcases df hq with rfl | hq
  ·exact⟨q,mS_ ..,hn,fun j hw=>u j (z.1 j hw)⟩
  exact absurd (u q hq) hn
theorem J_.all (hs:Shape P ops A) (hj:J_ P G ih ops A n d fin ρ₀ σ₀ w₀ t₀ l done t U listed S w a) (C:Region.ready .any ops listed= []):∀i,i<ops.size->Li listed i:=by
 have u:∀i∈done,Li listed i:=fun i hi=>Classical.byContradiction fun h=>by
  obtain⟨q,h1,h2,E⟩:=y8 hj.ord ⟨i,hi,h⟩;have:=Cm hj.Ka (hj.Mu q h1) h2 E;rw[C] at this;cases this
 intro i hi;cases l with
 | nil=>
  have:=hj.ok;exact u i<|this i hi
 | cons p l=>
  obtain⟨q,rc⟩:=p;obtain⟨z,_⟩:=hj.ok;have:=Cm (listed:=listed) hj.Ka z.lt (fun h=>z.new (hj.sub q h)) (fun j hw=>u j (z.dep j hw));rw[C] at this;cases this
theorem J_.finish (hs:Shape P ops A) (hj:J_ P G ih ops A n d fin ρ₀ σ₀ w₀ t₀ l done t U listed S w a) (u:∀i,i<ops.size->Li listed i):fin= .ok .normal t d U/\TR S t n a.tmps:=by
 cases l with
 | nil=>
  refine⟨hj.run.symm,hj.L9,fun k v hv=>?_⟩
  by_cases hw:∃i,fe ops i=some k
  ·obtain⟨i,hi⟩:=hw;have hL:=u i (mA hi);exact⟨hj.NL i (hj.sub i hL) k hi,hj.Cy i k v hL hi hv⟩
  rw[hj.same k fun i _ hi=>hw ⟨i,hi⟩] at hv;exact hj.Cw k v (fun i _ hi=>hw ⟨i,hi⟩) hv
 | cons p l=>
  obtain⟨q,rc⟩:=p;obtain⟨z,_⟩:=hj.ok;exact absurd (hj.sub q<|u q z.lt) z.new
def left (N_:Nat) (listed:Array Bool):Nat:=(List.range N_).countP fun i=> !listed.getD i false
theorem yH {α:Type} {p q:α->Bool}:∀{l:List α} {x:α},(∀y∈l,q y=true->p y=true)->x∈l->p x=true->q x=false->l.countP q<l.countP p
 | [],x,_,hx,_,_=>by cases hx
 | y::l,x,h,hx,hp,hq=>by
  have hle:l.countP q<=l.countP p:=List.countP_mono_left fun z u=>h z (mC_ _ u)
  rcases df hx with rfl | hx
  ·simp[List.countP_cons,hp,hq];omega
  have:=yH (fun z u=>h z (mC_ _ u)) hx hp hq;rw[List.countP_cons,List.countP_cons];cases hy:q y with
  | false=>simp;omega
  | true=>rw[h y (mS_ ..) hy];simp;omega
theorem IQ {N_ i:Nat} (hi:i<N_) (u:listed.size=N_) (hn:¬Li listed i):left N_ (listed.setIfInBounds i true)<left N_ listed:=by
 refine yH (x:=i) (fun y _ hy=>?_) (List.mem_range.2 hi) ?_ ?_
 ·by_cases h:Li listed y
  ·have:Li (listed.setIfInBounds i true) y:=(zy (by rw[u];exact hi)).2 (.inr h);unfold Li at this;rw[this] at hy;cases hy
  unfold Li at h;simpa using h
 ·unfold Li at hn;simpa using hn
 have:Li (listed.setIfInBounds i true) i:=(zy (by rw[u];exact hi)).2 (.inl Z);unfold Li at this;rw[this];rfl
theorem GP {N_:Nat} (h:left N_ listed=0):∀i,i<N_->Li listed i:=fun i hi=>by
 have:=List.countP_eq_zero.1 h i (List.mem_range.2 hi);unfold Li;simpa using this
theorem Inv.lay (hi:Inv S U w) {b:Pos} {l:Loc} {ob:cG} {x:Obj} (hb:U.m.get b=some ob) (hn:S b=none) (aa:b.num<U.next.num) (hl:l.dE=w.heap.size) (Q:iF S l ob x):Inv (S.with b l) U (w.alloc x)/\S.le (S.with b l):=by
 have hle:S.le (S.with b l):=fun b' l' u=>by
  rw[dh.dT]; · exact u
  intro e;subst e;rw[hn] at u;cases u
 have hold:∀b' l',b'≠b->(S.with b l) b'=some l'->S b'=some l':=fun b' l' C h=>by rwa[dh.dT S l C] at h
 have E:Old (S.with b l) U (w.alloc x):=by
  refine⟨by have:=hi.pI.size;simp;omega,fun r K=>by rw[heap_alloc_old w x<|Nat.lt_of_lt_of_le K hi.pI.size];exact hi.pI.same r K,fun r K ⟨b',o',l',h1,h2,z,h4⟩=>?_⟩
  by_cases e:b'=b
  ·subst e;rw[dh.cZ] at z;cases z;have:=hi.pI.size;omega
  exact hi.pI.no r K ⟨b',o',l',h1,h2,hold b' l' e z,h4⟩
 refine⟨⟨⟨fun b' u=>?_,fun b' l' u=>?_,fun b' o' l' u F=>?_,fun b₁ b₂ o₁ o₂ l₁ l₂ h1 h2 z h4 h5 M=>?_⟩,E⟩,hle⟩
 ·have C:b'≠b:=fun e=>by subst e;omega
  rw[dh.dT S l C];exact hi.fresh b' u
 ·simp only[World.size_alloc]
  by_cases e:b'=b
  ·subst e;rw[dh.cZ] at u;cases u;omega
  have:=hi.dE b' l' (hold b' l' e u);omega
 ·by_cases e:b'=b
  ·subst e;rw[dh.cZ] at F;cases F;rw[hb] at u;cases u;exact⟨x,by rw[hl];exact heap_alloc_new w x,Q.mono hle⟩
  have h':=hold b' l' e F;obtain⟨y,hy,K⟩:=hi.obj b' o' l' u h';exact⟨y,by rw[heap_alloc_old w x<|hi.dE b' l' h'];exact hy,K.mono hle⟩
 by_cases e1:b₁=b<;>by_cases L:b₂=b
 ·exact absurd (e1.trans L.symm) M
 ·subst e1;rw[dh.cZ] at z;cases z;have:=hi.dE b₂ l₂ (hold b₂ l₂ L h4);omega
 ·subst L;rw[dh.cZ] at h4;cases h4;have:=hi.dE b₁ l₁ (hold b₁ l₁ e1 z);omega
 exact hi.inj b₁ b₂ o₁ o₂ l₁ l₂ h1 h2 (hold b₁ l₁ e1 z) (hold b₂ l₂ L h4) h5 M
theorem eY.lay (aq:eY ρ₀ σ₀ w₀ S U w) {b:Pos} {l:Loc} {x:Obj} (aa:σ₀.next.num<=b.num) (hl:l.dE=w.heap.size):eY ρ₀ σ₀ w₀ (S.with b l) U (w.alloc x):=by
 refine⟨fun b' z=>?_,aq.next,by have:=aq.size;simp;omega,fun r C hn=>?_,?_,aq.tape,aq.os,aq.out⟩
 ·rw[dh.dT S l (fun e=>by subst e;omega)];exact aq.ext b' z
 ·rw[heap_alloc_old w x (by have:=aq.size;omega)];exact aq.frame r C hn
 rintro r ⟨b',o',l',h1,h2,u,rfl⟩ C
 by_cases e:b'=b
 ·subst e;rw[dh.cZ] at u;cases u;have:=aq.size;omega
 rw[dh.dT S l e] at u;exact aq.wr _ ⟨b',o',l',h1,h2,u,Z⟩ C
theorem J_.take (M:Shape P ops A) (hj:J_ P G ih ops A n d fin ρ₀ σ₀ w₀ t₀ l done t U listed S w a) {i:Nat} (E:i∈done) (hn:¬Li listed i) (hw:∀j,waits ops i j=true->Li listed j) (rl:Option Nat) (m:Nat) {Q:Exit->Act->World->Prop} {K:Act->World->Prop}
  (X:∀S1 w₁ a₁,J_ P G ih ops A n d fin ρ₀ σ₀ w₀ t₀ l done t U (listed.setIfInBounds i true) S1 w₁ a₁->K a₁ w₁):wpOpIn (oO rl) m P ops Q i K a w:=by
 have hr:=vK M (hj.Mu i E) hw hj.closed;obtain⟨o,ti,L,h1,h2,bw,h3,h4,h5⟩:=hj.Ci i E hn;have hlook:=hj.look M L hn hr h1 h2;unfold wpOpIn;rw[L];dsimp only;rw[uP hj.L9 hlook h3];cases bw with
 | false=>
  simp only[Bool.false_eq_true,if_false];exact⟨fun f _=>qJ rl f,X S w _<|hj.behind M L E hn hr (fun k v hk hv=>by rw[h4 Z k hk] at hv;cases hv;exact vn) hj.inv hj.L7 (fun _ _ h=>h) fun j z C _=>hj.Ci j z C⟩
 | true=>
  simp only[if_true];have hE:ER S (bE G ti) a.eval o.op:=Ft hj.gr hlook;have hv:=h5 Z;unfold m6 at hv;have R:kindOf P o.op≠ .jW->∀c,o.op≠ .defer c:=fun hk c e=>hk (by rw[e];rfl)
  unfold Oper.wpIn;refine⟨fun f _=>qJ rl f,?_⟩;cases hk:kindOf P o.op with
  | jW=>rw[hk] at hv;exact hv.elim
  | pure=>
   rw[hk] at hv;obtain⟨v,g1,g2⟩:=hv;obtain⟨x,hx,F⟩:=xk (P:=P) (w:=w) hE g1;rw[Oper.semAt_eq _ _ _<|R (by rw[hk];simp),hx,Oper.uponIn_value];exact X S w _<|hj.behind M L E hn hr (fun k u hk hu=>by rw[g2 k hk] at hu;cases hu;exact F) hj.inv hj.L7 (fun _ _ h=>h) fun j z C _=>hj.Ci j z C
  | read=>
   rw[hk] at hv;obtain⟨v,g1,g2⟩:=hv;obtain⟨x,hx,F⟩:=xn (P:=P) hj.inv hE g1;rw[Oper.semAt_eq _ _ _<|R (by rw[hk];simp),hx,Oper.uponIn_value];exact X S w _<|hj.behind M L E hn hr (fun k u hk hu=>by rw[g2 k hk] at hu;cases hu;exact F) hj.inv hj.L7 (fun _ _ h=>h) fun j z C _=>hj.Ci j z C
  | alloc=>
   rw[hk] at hv;obtain⟨ob,mk,b,g1,g2,g3,g4,g5,g6⟩:=hv;obtain⟨x,ob',c,hx,am,aa,F⟩:=ur (P:=P) (w:=w) hE g1;rw[Oper.semAt_eq _ _ _<|R (by rw[hk];simp),hx,Oper.uponIn_value];obtain⟨inv,hle⟩:=hj.inv.lay (l:=⟨w.heap.size,0,c⟩) g2 g3 g5 Z aa;obtain⟨kd,W⟩:=M.dst i o L (by simp[gu,tT,L,hk]);refine X _ _ _<|hj.behind M L E hn hr (fun k u hk hu=>by rw[g6 k hk] at hu;cases hu;exact F _ b<|dh.cZ _ _ _) inv (hj.L7.lay g4 Z) hle fun j z C ab=>?_;refine(hj.Ci j z C).Qw M fun b' ac hb'n=>?_
   obtain⟨o',k',v',q1,q2,q3,q4,q5⟩:=ac;rw[dh.dT]
   ·exact hb'n
   intro e;subst e;exact ab<|hj.apart j i o' o k' kd v' (mk.of b') b' z E C hn q1 L q2 hk q3 (by rw[iM L];exact W) q4 (g6 kd W) q5<|zE mk b'
theorem Ib (F:Shape P ops A) (hS:Sound P G ih) (rl:Option Nat) (m:Nat) {Q:Exit->Act->World->Prop} {e:Ex} {t':N V} {d':List DE} {U':D} (z:fin= .ok e t' d' U')
  (hQ:∀(S':dh) (w':World) (a':Act),Inv S' U' w'->eY ρ₀ σ₀ w₀ S' U' w'->TR S' t' n a'.tmps->DR S' d' a'.defers->Qx Q S' e a' w'):
  ∀(fuel:Nat) (l:List (Nat×List Nat)) (done:List Nat) (t:N V) (U:D) (listed:Array Bool) (S:dh) (w:World) (a:Act),J_ P G ih ops A n d fin ρ₀ σ₀ w₀ t₀ l done t U listed S w a->left ops.size listed<=fuel->
   wpAnyIn (oO rl) m P .any ops Q fuel listed a w:=by
 have K:∀{l done t U listed S w a},J_ P G ih ops A n d fin ρ₀ σ₀ w₀ t₀ l done t U listed S w a->Region.ready .any ops listed= []->Q .normal a w:=fun {l done t U listed S w a} hj hr=>by
  obtain⟨h1,h2⟩:=hj.finish F (hj.all F hr);rw[z] at h1;cases h1;exact hQ S w a hj.inv hj.L7 h2 hj.dr _ Z
 intro fuel;induction fuel with
 | zero=>
  intro l done t U listed S w a hj hf;have hall:=GP (Nat.le_zero.1 hf)
  have hr:Region.ready .any ops listed= []:=by
   apply List.eq_nil_iff_forall_not_mem.2;intro i hi;obtain⟨h1,h2,_⟩:=Cn hj.Ka hi;exact h2<|hall i h1
  exact⟨hr,K hj hr⟩
 | succ fuel ihf=>
  intro l done t U listed S w a hj hf;refine⟨fun hr=>K hj hr,fun i hi=>?_⟩;obtain⟨l,done,t,U,hj,L⟩:=J_.advance F (fun k=>by rw[z];simp) l done t U hj;obtain⟨C,hn,hw⟩:=Cn hj.Ka hi;have M:left ops.size (listed.setIfInBounds i true)<=fuel:=by have:=IQ C hj.Ka hn;omega
  by_cases R:i∈done
  ·exact hj.take F R hn hw rl m fun S1 w₁ a₁ aa=>ihf _ _ _ _ _ _ _ _ aa M
  
  rcases L with rfl | ⟨q,rc,r,rfl,hl⟩
  ·have:=hj.ok;exact absurd (this i C) R
  obtain⟨hh,_⟩:=hj.ok
  have ab:i=q:=Classical.byContradiction fun ac=>by
   obtain⟨x,h1,h2⟩:=hh.alone hl i C R ac;exact h2<|hj.sub x<|hw x h1
  subst ab;have hr:=vK F C hw hj.closed;obtain⟨o,ho⟩:∃o,ops[i]?=some o:=⟨ops[i]' C,aG_ C⟩;have hlook:=hj.look F ho hn hr (ti:=t) (fun _ _ _ _ _=>Z) (hj.wI F ho hh.new)
  have u:(match ops[i]? with
   | some o=>ju P G ih false ops n o t U (fun t' U'=>bif dn P G ops t' U' rc then ke P G ih ops n d r t' U' else .err 86)
   | none=>.err 87)=fin:=hj.run
  rw[ho,z] at u;dsimp only at u
  have E:∀t₁ W,(bif dn P G ops t₁ W rc then ke P G ih ops n d r t₁ W else .err 86)= .ok e t' d' U'->dn P G ops t₁ W rc=true/\ke P G ih ops n d r t₁ W=fin:=fun t₁ W h=>by
   rw[bA] at h;split at h
   ·rename_i aq;exact⟨aq,by rw[z];exact h⟩
   cases h
  unfold ju at u;unfold wpOpIn;rw[ho];dsimp only;cases X:bM ops t o with
  | none=>rw[X] at u;cases u
  | some bw=>
   rw[X] at u;rw[uP hj.L9 hlook X];cases bw with
   | false=>
    dsimp only at u;simp only[Bool.false_eq_true,if_false];cases hp:dI t n o.dst unit with
    | none=>rw[hp] at u;cases u
    | some t₁=>
     rw[hp] at u;obtain⟨c1,c2⟩:=E _ _ u;exact⟨fun f _=>qJ rl f,ihf _ _ _ _ _ _ _ _ (hj.OA F hl ho hr hp c1 c2 vn hj.inv<|eY.refl _ _ _) M⟩
   | true=>
    dsimp only at u;simp only[if_true];cases he:lT P G ih (dW P G (bE G t) U o.op) with
    | err k=>rw[he] at u;cases u
    | mO v W=>rw[he] at u;cases u
    | ret v W=>
     rw[he] at u;dsimp only at u;cases hp:dI t n o.dst v with
     | none=>rw[hp] at u;cases u
     | some t₁=>
      rw[hp] at u;obtain⟨c1,c2⟩:=E _ _ u;exact Ce hS hj.inv hj.gr (Ft hj.gr hlook) he rl m fun S1 w₁ x inv st hv=>ihf _ _ _ _ _ _ _ _ (hj.OA F hl ho hr hp c1 c2 hv inv st) M
end
section
variable {P:Program} {G:Cx}
theorem jJ {b:Frame} {a:Act} {k:List Item} {cs:List Frame} {w:World} {c:Code}:step P (lone (b.atR a (.code (.scope c)::k)) cs w)= .next (lone (b.atR a (.code c:: .inScope c::k)) cs w):=
 step_lone_go (by simp[stepG,stepG.exec,Frame.atR])
theorem yl {b:Frame} {a:Act} {k:List Item} {cs:List Frame} {w:World} {c:Code}:step P (lone (b.atR a (.inScope c::k)) cs w)= .next (lone (b.atR a k) cs w):=
 step_lone_go (by simp[stepG,stepG.exec,Frame.atR])
theorem EK {F:Fence} {n:Nat} {c:Code} {Q:Exit->Act->World->Prop} {a:Act} {w:World} (h:c.wpIn F n P (Exit.noGoto Q) a w):(Code.scope c).wpIn F n P Q a w:=by
 intro b k cs z hb A;have h0:(lone (b.atR a (.code (.scope c)::k)) cs w).fenced P F:=fenced_calm hb A Z;obtain⟨e,a₁,w₁,hq,u⟩:=h b (.inScope c::k) cs z hb A;cases e with
 | normal=>exact⟨.normal,a₁,w₁,hq,.head h0 jJ<|StepsIn.trans u (.one (fenced_calm hb A Z) yl)⟩
 | exit id'=>
  have hx:exitTo id' (.inScope c::k)=exitTo id' k:=by simp[exitTo]
  exact⟨.exit id',a₁,w₁,hq,fun k' hk=>.head h0 jJ (u.1 k' (by rw[hx];exact hk)),
   fun C hk=>let ⟨k₁,h1,h2⟩:=u.2 C (by rw[hx];exact hk);⟨k₁,h1,.head h0 jJ h2⟩⟩
 | goto l=>exact hq.elim
 | ret=>exact⟨_,a₁,w₁,hq,.of_steps (.one h0 jJ) u⟩
 | panic ch=>exact⟨_,a₁,w₁,hq,.of_steps (.one h0 jJ) u⟩
 | outgrown=>exact⟨_,a₁,w₁,hq,.of_steps (.one h0 jJ) u⟩
theorem kJ {N_ i:Nat}:¬Li (Array.replicate N_ false) i:=by
 unfold Li;rw[Array.getD_eq_getD_getElem?,Array.getElem?_replicate];split<;>simp
theorem Dv {ih:lf} (F:Sound P G ih) {ops:Array Oper} {n:Nat} {d:List DE} {t:N V} {U:D} {e:Ex} {t':N V} {d':List DE} {U':D} (h:uF P G ih ops n d t U= .ok e t' d' U')
  {S:dh} {w:World} {a:Act} (hi:Inv S U w) (K:GR S G) (E:TR S t n a.tmps) (L:DR S d a.defers) (rl:Option Nat) (m:Nat) {Q:Exit->Act->World->Prop}
  (M:∀(S':dh) (w':World) (a':Act),Inv S' U' w'->eY S U w S' U' w'->TR S' t' n a'.tmps->DR S' d' a'.defers->Qx Q S' e a' w'):
  wpAnyIn (oO rl) m P .any ops Q ops.size (Array.replicate ops.size false) a {w with drawn:=w.drawn+1}:=by
 unfold uF at h;rw[bA] at h;split at h
 ·rename_i hc;obtain⟨R,C⟩:=KJ hc;refine Ib (A:=zB P ops) (n:=n) (d:=d) (t₀:=t) (ρ₀:=S) (σ₀:=U) (w₀:=w) R F rl m Z M ops.size (jB P ops) [] t U _ S _ a ?_ ?_
  ·refine⟨h,C,hi.drew,eY.drew S U w,L,K,E.1,by simp,fun i hi=>(by cases hi),trivial,fun i z=>absurd z kJ,fun i hi=>(by cases hi),fun i j _ z=>absurd z kJ,fun i j _ hi=>(by cases hi),fun i hi=>(by cases hi),
    fun i k v z=>absurd z kJ,fun k v _ hv=>E.2 k v hv,fun _ _=>Z,fun i hi=>(by cases hi),?_⟩
   intro i j o o' k k' u u' b hi;cases hi
  exact Nat.le_trans List.countP_le_length (by simp)
 cases h
theorem xK {K:Act->World->Prop} {Q:Exit->Act->World->Prop} {S:dh} {e:Ex} {a:Act} {w:World} (he:e≠ .normal) (h:Qx Q S e a w):Qx (Exit.then K Q) S e a w:=by
 intro E u;have h':=h E u;cases e with
 | normal=>exact absurd Z he
 | mO v=>obtain⟨x,rfl,_⟩:=u;exact h'
 | exit i=>have u:E= .exit i:=u;subst u;exact h'
 | goto i=>have u:E= .goto i:=u;subst u;exact h'
 | ret=>have u:E= .ret:=u;subst u;exact h'
theorem Hi (hm:P.follows .mixedOrders=true) (hC:AQ P G) (k:Nat):Sound P G (ew P G k):=by
 induction k using Nat.strongRecOn with
 | _ k ihk=>
  cases k with
  | zero=>exact⟨hC,fun c t n d ro U e t' d' U' h=>by cases h⟩
  | succ j=>
   have hS:=ihk j (Nat.lt_succ_self j);refine⟨hC,fun c t n d ro U e t' d' U' h S w a rl m Q hi M L R W F=>?_⟩;have h:FQ P G (ew P G j) c t n d ro U= .ok e t' d' U':=h;cases c with
   | skip=>cases h;exact wpIn_skip<|F S w a hi (eY.refl _ _ _) L R _ Z
   | label l=>cases h;exact wpIn_label<|F S w a hi (eY.refl _ _ _) L R _ Z
   | exit id=>cases h;exact wpIn_exit<|F S w a hi (eY.refl _ _ _) L R _ Z
   | ret=>cases h;exact wpIn_ret<|F S w a hi (eY.refl _ _ _) L R _ Z
   | region id ops draw=>
    cases draw with
    | false=>
     have h':(bif lE ops.toList then .err 96 else ya d (sW P G (ew P G j) ops n d ops.toList t U))= .ok e t' d' U':=h;refine wpIn_region ?_;rw[bA] at h';split at h'
     ·cases h'
     have:=tX hS rl (m:=m) (Q:=Q) ops.toList 0 Z t U S w a h' hi M L R F;rw[List.range_eq_range'];simpa using this
    | true=>
     have h':uF P G (ew P G j) ops n d t U= .ok e t' d' U':=h;exact wpIn_region_any hm<|Dv hS h' hi M L R rl m F
   | seq x y=>
    have h':yj (ew P G j x t n d ro U) (fun t d U=>ew P G j y t n d ro U)= .ok e t' d' U':=h;refine wpIn_seq ?_;cases hx:ew P G j x t n d ro U with
    | err q=>rw[hx] at h';cases h'
    | ok e₁ t₁ d₁ K=>
     rw[hx] at h'
     by_cases he:e₁= .normal
     ·subst he;refine hS.run x t n d ro U _ t₁ d₁ K hx S w a rl m _ hi M L R W fun C w₁ a₁ i₁ s₁ ht₁ u E A=>?_
      have A:E= .normal:=A;subst A;have hle:=s₁.le hi;exact hS.run y t₁ n d₁ ro K e t' d' U' h' C w₁ a₁ rl m Q i₁ (M.mono hle) ht₁ u (W.mono hle) fun S' w' a' i' s'=>F S' w' a' i' (s₁.trans s')
     have h'':CR.ok e₁ t₁ d₁ K= .ok e t' d' U':=by cases e₁<;>first | exact absurd rfl he | exact h'
     cases h'';exact hS.run x t n d ro U _ _ _ _ hx S w a rl m _ hi M L R W fun C w₁ a₁ i₁ s₁ ht₁ u=>xK he (F C w₁ a₁ i₁ s₁ ht₁ u)
   | cond x y z=>
    have h':yG (bE G t x) (ew P G j y t n d ro U) (ew P G j z t n d ro U)= .ok e t' d' U':=h;unfold yG at h';split at h'
    ·rename_i hv;have:=kF (a:=a) M L hv;simp only[H] at this;exact wpIn_cond_true this<|hS.run y t n d ro U e t' d' U' h' S w a rl m Q hi M L R W F
    ·rename_i hv;have:=kF (a:=a) M L hv;simp only[H] at this;exact wpIn_cond_false this<|hS.run z t n d ro U e t' d' U' h' S w a rl m Q hi M L R W F
    cases h'
   | block id x=>
    have h':tG id (ew P G j x t n d ro U)= .ok e t' d' U':=h;refine wpIn_block ?_;cases hx:ew P G j x t n d ro U with
    | err q=>rw[hx] at h';cases h'
    | ok e₁ t₁ d₁ K=>
     rw[hx] at h';refine hS.run x t n d ro U e₁ t₁ d₁ K hx S w a rl m _ hi M L R W fun C w₁ a₁ i₁ s₁ ht₁ u E A=>?_
     cases e₁ with
     | exit q=>
      have A:E= .exit q:=A;subst A;unfold tG at h';dsimp only at h';rw[bA] at h';split at h'
      ·rename_i hq;cases h';have:=nB hq;subst this;simp only[Exit.inBlock,if_true];exact F C w₁ a₁ i₁ s₁ ht₁ u _ Z
      rename_i hq;cases h';have ab:¬q=id:=fun e=>hq (by rw[e];exact Nat.beq_refl id)
      simp only[Exit.inBlock,if_neg ab];exact F C w₁ a₁ i₁ s₁ ht₁ u _ Z
     | normal=>have A:E= .normal:=A;subst A;cases h';exact F C w₁ a₁ i₁ s₁ ht₁ u _ Z
     | goto q=>have A:E= .goto q:=A;subst A;cases h';exact F C w₁ a₁ i₁ s₁ ht₁ u _ Z
     | ret=>have A:E= .ret:=A;subst A;cases h';exact F C w₁ a₁ i₁ s₁ ht₁ u _ Z
     | mO v=>cases h';have h2:=F C w₁ a₁ i₁ s₁ ht₁ u E A;obtain⟨y,rfl,_⟩:=A;exact h2
   | scope x=>
    have h':Em (ew P G j x t n d ro U)= .ok e t' d' U':=h;refine EK ?_;cases hx:ew P G j x t n d ro U with
    | err q=>rw[hx] at h';cases h'
    | ok e₁ t₁ d₁ K=>
     rw[hx] at h';refine hS.run x t n d ro U e₁ t₁ d₁ K hx S w a rl m _ hi M L R W fun C w₁ a₁ i₁ s₁ ht₁ u E A=>?_
     cases e₁ with
     | goto q=>cases h'
     | normal=>have A:E= .normal:=A;subst A;cases h';exact F C w₁ a₁ i₁ s₁ ht₁ u _ Z
     | exit q=>have A:E= .exit q:=A;subst A;cases h';exact F C w₁ a₁ i₁ s₁ ht₁ u _ Z
     | ret=>have A:E= .ret:=A;subst A;cases h';exact F C w₁ a₁ i₁ s₁ ht₁ u _ Z
     | mO v=>cases h';have h2:=F C w₁ a₁ i₁ s₁ ht₁ u E A;obtain⟨y,rfl,_⟩:=A;exact h2
   | loop x=>
    refine wpIn_loop_ghost (fun i a₁ w₁=>i<=j+1/\∃t₁ d₁ K C,ew P G i (.loop x) t₁ n d₁ ro K= .ok e t' d' U'/\Inv C K w₁/\eY S U w C K w₁/\TR C t₁ n a₁.tmps/\DR C d₁ a₁.defers) (j+1)
     ⟨nR_ _,t,d,U,S,h,hi,eY.refl _ _ _,L,R⟩ fun i a₁ w₁ hI=>?_
    obtain⟨ac,t₁,d₁,K,C,X,i₁,s₁,ht₁,u⟩:=hI;have hle:=s₁.le hi;cases i with
    | zero=>cases X
    | succ i=>
     have hSi:=ihk i B;have h':yj (ew P G i x t₁ n d₁ ro K) (fun t d U=>ew P G i (.loop x) t n d ro U)= .ok e t' d' U':=X;cases hx:ew P G i x t₁ n d₁ ro K with
     | err q=>rw[hx] at h';cases h'
     | ok e₂ t₂ d₂ U2=>
      rw[hx] at h'
      by_cases he:e₂= .normal
      ·subst he;refine hSi.run x t₁ n d₁ ro K _ t₂ d₂ U2 hx C w₁ a₁ rl m _ i₁ (M.mono hle) ht₁ u (W.mono hle) fun S2 w₂ a₂ i₂ s₂ ht₂ aa E A=>?_
       have A:E= .normal:=A;subst A;exact⟨i,Nat.lt_succ_self i,by omega,t₂,d₂,U2,S2,h',i₂,s₁.trans s₂,ht₂,aa⟩
      have h'':CR.ok e₂ t₂ d₂ U2= .ok e t' d' U':=by cases e₂<;>first | exact absurd rfl he | exact h'
      cases h'';exact hSi.run x t₁ n d₁ ro K _ _ _ _ hx C w₁ a₁ rl m _ i₁ (M.mono hle) ht₁ u (W.mono hle) fun S2 w₂ a₂ i₂ s₂ ht₂ aa=>xK he (F S2 w₂ a₂ i₂ (s₁.trans s₂) ht₂ aa)
   | _=>cases h
theorem pU (hm:P.follows .mixedOrders=true) (u:AQ P G) {fuel f:Nat} {args:List V} {U U':D} {v:V} (h:wo P G fuel f args U= .ret v U') {S:dh} {w:World} {xs:Array Value} (hi:Inv S U w) (z:GR S G) (hx:dp S args xs.toList)
  {R:Ending->World->Prop} (A:∀(S':dh) (w':World) (x:Value),Inv S' U' w'->eY S U w S' U' w'->H S' v x->R (.returned x) w'):Calls P f xs w R:=
 callsIn_wide.1 (vP (Hi hm u fuel) h hi z hx none 0 A)
def U0:D:=⟨0,.leaf⟩
end
end Go.Ev
namespace Go.Ev
variable [Env]
open Go.ChangeShapes Go.WideShapes Go.ChangeAt Go.RowKit
theorem kr.kept {w w':World} (h:kr w w') (may:MemPlace->Prop):w.keptBut w' may:=by
 refine⟨h.os,h.out,fun i hi=>?_⟩;rw[h.same i hi];cases w.heap[i]? with
 | none=>rfl
 | some o=>cases o<;>first | exact⟨rfl,rfl,rfl,fun _ _=>Z⟩ | exact .inr ⟨rfl,rfl⟩ | rfl
theorem kr.frozen {w w':World} (h:kr w w') (a:Addr) (u:a.block<w.heap.size):w'.frozen? a=w.frozen? a:=by
 unfold World.frozen?;rw[h.same a.block u]
theorem Ei {H_:Type} {enc:TypeId×Value->H_} {P:Program} {f:Func} {s:ChangeSpec} {apart fresh handsOn again:Bool} {W W':World} {args:Array Value} {v:Value} {ds gs:List (DataW H_)} {before pa pv:List MemPlace}
  (F:DataW.Whole enc P f.params.toList s.vars apart W args.toList ds gs before)
  (A:∀(b:Nat) (sp:Nat->Bool) (K:Bool),DataW.TrodAll enc P W' b sp K f.resultTypes.toList (v.resultList f.resultTypes.size) (s.fn H_ (ds++gs)).results [])
  (u:∀sp:Nat->Bool,(∀p∈before,sp p.block=true)->DataW.TrodAll enc P W' 0 sp true f.params.toList args.toList (s.fn H_ (ds++gs)).args pa)
  (z:∀sp:Nat->Bool,(∀p∈before,sp p.block=true)->DataW.TrodVars enc P W' sp s.vars (s.fn H_ (ds++gs)).vars pv)
  (C:before=pa++pv) (hk:kr W W')
  (G:∀(j:Nat) (t:TypeId) (r:Value),f.resultTypes[j]?=some t->(v.resultList f.resultTypes.size)[j]?=some r->Value.okWide P W' .any 0 t r):
  s.post enc P f apart fresh handsOn again W args v W':=by
 have hold:∀p∈before,(fun b=>decide (b<W.heap.size)) p.block=true:=fun p hp=>by simpa using F.lt p hp
 refine⟨ds,gs,before,[],pa,pv,F,A _ _ _,u _ hold,z _ hold,hk.kept _,fun _=>?_⟩;have hlt:=F.lt;obtain⟨_,_,_,_,_,L,hn⟩:=F;refine⟨G,_,_,([]++pa)++pv,⟨[]++pa,pv,trodAll_append (u _ (fun _ _=>Z))<|A _ _ _,z _ (fun _ _=>Z),Z,?_,?_⟩,?_⟩
 ·intro b off hp;have E:MemPlace.cell b off∈before:=by rw[C];simpa using hp
  rw[hk.frozen _<|hlt _ E];exact L b off E
 ·intro M;have:=hn M;rw[C] at this;simpa using this
 intro p hp _;rw[C];simpa using hp
end Go.Ev
namespace Go.Ev
variable [Env]
structure IK where
 k:IntKind
 n:Int
structure PO where
 b:Pos
 off:Nat
structure SL where
 b:Pos
 off:Nat
 len:Nat
def NK:V->Option IK
 | .int k n=>some ⟨k,n⟩
 | _=>none
def O9:V->Option PO
 | .ptr b off=>some ⟨b,off⟩
 | _=>none
def Qg:V->Option SL
 | .slice b off len _=>some ⟨b,off,len⟩
 | _=>none
def Qf:V->Option Nat
 | .int _ (.ofNat i)=>some i
 | _=>none
def Qe:V->Option Bool
 | .bool b=>some b
 | _=>none
def Qh:V->Option (List V)
 | .tuple l=>some l
 | _=>none
def rowOf:cG->Option (List V)
 | .row cells _ _=>some cells
 | .own cells _=>some cells
 | _=>none
theorem Be {v:V} {i:IK} (h:NK v=some i):v= .int i.k i.n:=by
 unfold NK at h;split at h
 ·cases h;rfl
 cases h
def pG (U:D) (e:Nat) (v:Option V):HR:=Option.rec (motive:=fun _=>HR) (.err e) (fun v=>.val v U) v
theorem nr (U:D) (e:Nat) (v:Option V):pG U e v=match v with | some v=>.val v U | none=>.err e:=by cases v<;>rfl
structure PR where
 run:N V->Option V
def oa (G:Cx) (x:Operand):PR:=
 match x with
 | .tmp k=>bif Nat.ble k 255 then⟨fun t=>jV t.s k⟩ else⟨fun t=>t.get k⟩
 | .const v=>⟨fun _=>qb v⟩
 | .global g=>⟨fun _=>bif Nat.ble (Nat.succ g) G.gl then some (.ptr (posOf g) 0) else none⟩
 | .func f=>⟨fun _=>some (.func f [] [])⟩
theorem jA (G:Cx) (x:Operand) (t:N V):(oa G x).run t=bE G t x:=by
 cases x with
 | tmp k=>
  show(bif Nat.ble k 255 then(⟨fun t=>jV t.s k⟩:PR) else⟨fun t=>t.get k⟩).run t=t.get k;cases h:Nat.ble k 255 with
  | true=>exact(N.pY t ((oG k 255).1 h)).symm
  | false=>rfl
 | _=>rfl
structure PQ where
 run:V->V->Option V
def IH (P:Program) (q:Bool) (o:BinOp) (ty:TypeId) (f:IntKind->Int->Int->V) (a b:V):Option V:=
 Option.rec (motive:=fun _=>Option V) (vh P q o ty a b) (fun i=>Option.rec (motive:=fun _=>Option V) (vh P q o ty a b) (fun j=>bif r9 i.k j.k then some (f i.k i.n j.n) else none) (NK b)) (NK a)
theorem MX {P:Program} {q:Bool} {o:BinOp} {ty:TypeId} {f:IntKind->Int->Int->V} (h:∀k x k' y,vh P q o ty (.int k x) (.int k' y)=bif r9 k k' then some (f k x y) else none) (a b:V):IH P q o ty f a b=vh P q o ty a b:=by
 unfold IH;cases u:NK a with
 | none=>rfl
 | some i=>
  cases hb:NK b with
  | none=>rfl
  | some j=>
   rw[Be u,Be hb,h]
def Qp (_:IntKind) (x y:Int):V:=.bool (bU x y)
def Qm (_:IntKind) (x y:Int):V:=.bool (bU y x)
def Qo (_:IntKind) (x y:Int):V:=.bool (bif bU y x then false else true)
def Ql (_:IntKind) (x y:Int):V:=.bool (bif bU x y then false else true)
def Qk (_:IntKind) (x y:Int):V:=.bool (I x y)
def Qs (_:IntKind) (x y:Int):V:=.bool (bif I x y then false else true)
def O7 (k:IntKind) (x y:Int):V:=.int k (wr k<|Int.add x y)
def PL (k:IntKind) (x y:Int):V:=.int k (wr k<|Int.sub x y)
def Pm (k:IntKind) (x y:Int):V:=.int k (wr k<|Int.mul x y)
def NY (P:Program) (q:Bool) (o:BinOp) (ty:TypeId):PQ:=
 match o with
 | .lss=>⟨IH P q .lss ty Qp⟩
 | .gtr=>⟨IH P q .gtr ty Qm⟩
 | .leq=>⟨IH P q .leq ty Qo⟩
 | .geq=>⟨IH P q .geq ty Ql⟩
 | .eql=>⟨IH P q .eql ty Qk⟩
 | .neq=>⟨IH P q .neq ty Qs⟩
 | .add=>⟨IH P q .add ty O7⟩
 | .sub=>⟨IH P q .sub ty PL⟩
 | .mul=>⟨IH P q .mul ty Pm⟩
 | o=>⟨fun a b=>vh P q o ty a b⟩
theorem Mt (P:Program) (q:Bool) (o:BinOp) (ty:TypeId) (a b:V):(NY P q o ty).run a b=vh P q o ty a b:=by
 cases o<;>first | rfl | exact MX (fun _ _ _ _=>Z) a b
def NX (c:PQ) (x y:Option V):Option V:=
 Option.rec (motive:=fun _=>Option V) none (fun a=>Option.rec (motive:=fun _=>Option V) none (fun b=>c.run a b) y) x
def FE (c a b:Option V):Option V:=
 Option.rec (motive:=fun _=>Option V) none (fun c=>Option.rec (motive:=fun _=>Option V) none (fun c=>bif c then a else b) (Qe c)) c
def N3 (i:Nat) (x:Option V):Option V:=
 Option.rec (motive:=fun _=>Option V) none (fun x=>Option.rec (motive:=fun _=>Option V) none (fun l=>nth l i) (Qh x)) x
def Pl (ag:Option (Option Nat)) (cells:List V) (off:Nat):Option V:=
 Option.rec (motive:=fun _=>Option V) none (fun o=>Option.rec (motive:=fun _=>Option V) (nth cells off) (fun n=>bif Nat.ble (Nat.add off n) (cX cells) then some (.agg<|takeN (dS cells off) n) else none) o) ag
def B4 (ag:Option (Option Nat)) (U:D) (x:Option V):Option V:=
 Option.rec (motive:=fun _=>Option V) none (fun v=>Option.rec (motive:=fun _=>Option V) none (fun p=>Option.rec (motive:=fun _=>Option V) none
  (fun o=>Option.rec (motive:=fun _=>Option V) none (fun cells=>Pl ag cells p.off) (rowOf o)) (U.m.get p.b))<|O9 v) x
def nV (P:Program) (s:TypeId) (i:Nat):Option Nat:=
 match structOf P s with
 | some fs=>match fs[i]? with
  | some f=>match uI P f.type with
   | some j=>bif Nat.beq j.size 0 then none else some f.offset
   | none=>none
  | none=>none
 | none=>none
def OD (k:Option Nat) (x:Option V):Option V:=
 Option.rec (motive:=fun _=>Option V) none (fun k=>Option.rec (motive:=fun _=>Option V) none (fun v=>Option.rec (motive:=fun _=>Option V) none (fun p=>some (.ptr p.b<|Nat.add p.off k)) (O9 v)) x) k
structure IA where
 n:Option Nat
 sz:Nat
def wJ (P:Program) (t:TypeId):Option IA:=
 match pk P t with
 | some (.slice e)=>match uI P e with | some j=>some ⟨none,j.size⟩ | none=>none
 | some (.array n e)=>match uI P e with | some j=>some ⟨some n,j.size⟩ | none=>none
 | _=>none
def Pk (q:IA) (v:V) (i:Nat):Option V:=
 Option.rec (motive:=fun _=>Option V)
  (Option.rec (motive:=fun _=>Option V) none (fun s=>bif Nat.ble (Nat.succ i) s.len then some (.ptr s.b<|Nat.add s.off<|Nat.mul i q.sz) else none)<|Qg v)
  (fun n=>Option.rec (motive:=fun _=>Option V) none (fun p=>bif Nat.ble (Nat.succ i) n then some (.ptr p.b<|Nat.add p.off<|Nat.mul i q.sz) else none) (O9 v)) q.n
def OE (q:Option IA) (x i:Option V):Option V:=
 Option.rec (motive:=fun _=>Option V) none (fun q=>Option.rec (motive:=fun _=>Option V) none (fun v=>Option.rec (motive:=fun _=>Option V) none
  (fun w=>Option.rec (motive:=fun _=>Option V) none (fun i=>Pk q v i) (Qf w)) i) x) q
structure O0 where
 run:N V->D->HR
def Bp (P:Program) (G:Cx) (U:D) (f:Option V) (args:Option (List V)):HR:=
 Option.rec (motive:=fun _=>HR) (.err 12) (fun g=>Option.rec (motive:=fun _=>HR) (.err 12) (fun args=>yA P G.ov U g args) args) f
def Gw (G:Cx) (l:List Operand) (t:N V):Option (List V):=cW (fun x=>(oa G x).run t) l
def Lh (P:Program) (G:Cx) (op:Op):O0:=
 match op with
 | .move x=>⟨fun t U=>pG U 1001 ((oa G x).run t)⟩
 | .assign x=>⟨fun t U=>pG U 1002 ((oa G x).run t)⟩
 | .pick c a b=>⟨fun t U=>pG U 1003 (FE ((oa G c).run t) ((oa G a).run t) ((oa G b).run t))⟩
 | .binOp o ty x y _=>⟨fun t U=>pG U 1014 (NX (NY P (yT x || yT y) o ty) ((oa G x).run t) ((oa G y).run t))⟩
 | .extract x i=>⟨fun t U=>pG U 1036 (N3 i ((oa G x).run t))⟩
 | .load ty x=>⟨fun t U=>pG U 2009 (B4 (dU P ty) U ((oa G x).run t))⟩
 | .fieldAddr s x i=>⟨fun t U=>pG U 1024 (OD (nV P s i) ((oa G x).run t))⟩
 | .indexAddr ty x i=>⟨fun t U=>pG U 1026 (OE (wJ P ty) ((oa G x).run t) ((oa G i).run t))⟩
 | .call c=>match c.callee with
  | .value f=>⟨fun t U=>Bp P G U ((oa G f).run t) (Gw G c.args.toList t)⟩
  | _=>⟨fun t U=>dW P G (bE G t) U (.call c)⟩
 | op=>⟨fun t U=>dW P G (bE G t) U op⟩
theorem Je (P:Program) (G:Cx) (op:Op) (t:N V) (U:D):(Lh P G op).run t U=dW P G (bE G t) U op:=by
 cases op with
 | move x=>show pG U 1001 ((oa G x).run t)=_;rw[jA,nr];rfl
 | assign x=>show pG U 1002 ((oa G x).run t)=_;rw[jA,nr];rfl
 | pick c a b=>
  show pG U 1003 (FE ((oa G c).run t) ((oa G a).run t) ((oa G b).run t))=_;rw[jA,jA,jA,nr]
  have:FE (bE G t c) (bE G t a) (bE G t b)=di P (bE G t) (.pick c a b):=by
   simp only[di,FE];cases bE G t c with
   | none=>rfl
   | some v=>cases v<;>first | rfl | (rename_i b;cases b<;>rfl)
  rw[this];rfl
 | binOp o ty x y r=>
  show pG U 1014 (NX (NY P (yT x || yT y) o ty) ((oa G x).run t) ((oa G y).run t))=_;rw[jA,jA,nr]
  have:NX (NY P (yT x || yT y) o ty) (bE G t x) (bE G t y)=di P (bE G t) (.binOp o ty x y r):=by
   simp only[di,NX];cases bE G t x with
   | none=>rfl
   | some v=>
    cases bE G t y with
    | none=>rfl
    | some u=>exact Mt P _ o ty v u
  rw[this];rfl
 | extract x i=>
  show pG U 1036 (N3 i ((oa G x).run t))=_;rw[jA,nr]
  have:N3 i (bE G t x)=di P (bE G t) (.extract x i):=by
   simp only[di,N3];cases bE G t x with
   | none=>rfl
   | some v=>cases v<;>rfl
  rw[this];rfl
 | load ty x=>
  show pG U 2009 (B4 (dU P ty) U ((oa G x).run t))=_;rw[jA,nr]
  have:B4 (dU P ty) U (bE G t x)=gW P (bE G t) U (.load ty x):=by
   simp only[gW,B4];cases bE G t x with
   | none=>rfl
   | some v=>
    cases v<;>first | rfl | skip
    rename_i b off;show Option.rec (motive:=fun _=>Option V) none _ (U.m.get b)=_;cases hb:U.m.get b with
    | none=>dsimp only;rw[hb]
    | some o=>
     dsimp only;rw[hb];cases o<;>first | rfl | skip
     all_goals
      show Pl (dU P ty) _ off=_;unfold Pl;cases dU P ty with
      | none=>rfl
      | some q=>cases q<;>rfl
  rw[this];rfl
 | fieldAddr s x i=>
  show pG U 1024 (OD (nV P s i) ((oa G x).run t))=_;rw[jA,nr]
  have:OD (nV P s i) (bE G t x)=di P (bE G t) (.fieldAddr s x i):=by
   simp only[di,nV,p4];cases structOf P s with
   | none=>rfl
   | some fs=>
    dsimp only;cases hx:bE G t x with
    | none=>
     cases fs[i]? with
     | none=>rfl
     | some f=>dsimp only;cases P.info? f.type with
      | none=>rfl
      | some j=>dsimp only;cases Nat.beq j.size 0<;>rfl
    | some v=>
     cases hf:fs[i]? with
     | none=>cases v<;>first | rfl | (simp only[hf];rfl)
     | some f=>
      dsimp only;cases hj:P.info? f.type with
      | none=>cases v<;>first | rfl | (simp only[hf,hj];rfl)
      | some j=>
       dsimp only;cases z:Nat.beq j.size 0<;>(cases v<;>first | rfl | (simp only[hf,hj,z];rfl))
  rw[this];rfl
 | indexAddr ty x i=>
  show pG U 1026 (OE (wJ P ty) ((oa G x).run t) ((oa G i).run t))=_;rw[jA,jA,nr]
  have:OE (wJ P ty) (bE G t x) (bE G t i)=di P (bE G t) (.indexAddr ty x i):=by
   simp only[di,wJ,p4,ow];cases hu:P.underlying ty with
   | none=>rfl
   | some d=>
    cases d<;>first | rfl | skip
    all_goals
     dsimp only;rename_i e;cases hj:P.info? e with
     | none=>
      cases bE G t x with
      | none=>rfl
      | some v=>cases v<;>first | rfl | (cases bE G t i with
       | none=>rfl
       | some u=>cases u<;>first | rfl | (rename_i k n;cases n<;>first | rfl | (simp only[hj];rfl)))
     | some j=>
      cases bE G t x with
      | none=>rfl
      | some v=>cases v<;>first | (cases bE G t i with
       | none=>rfl
       | some u=>cases u<;>first | rfl | (rename_i k n;cases n<;>first | rfl | (simp only[hj];rfl)))
  rw[this];rfl
 | call c=>
  cases hc:c.callee with
  | value f=>
   have h1:(Lh P G (.call c)).run t U=Bp P G U ((oa G f).run t) (Gw G c.args.toList t):=by
    show(match c.callee with
     | .value f=>(⟨fun t U=>Bp P G U ((oa G f).run t) (Gw G c.args.toList t)⟩:O0)
     | _=>⟨fun t U=>dW P G (bE G t) U (.call c)⟩).run t U=_
    rw[hc]
   have h2:dW P G (bE G t) U (.call c)=gz P G.ov (bE G t) U (.call c):=by
    unfold dW;have:kindOf P (.call c)= .jW:=by simp only[kindOf,hc]
    rw[this]
   have A:Gw G c.args.toList t=tN (bE G t) c.args.toList:=by
    unfold Gw tN;congr 1;funext x;exact jA G x t
   rw[h1,h2,jA,A];simp only[gz,hc,Bp];cases bE G t f with
   | none=>rfl
   | some g=>cases tN (bE G t) c.args.toList<;>rfl
  | _=>
   show(match c.callee with
     | .value f=>(⟨fun t U=>Bp P G U ((oa G f).run t) (Gw G c.args.toList t)⟩:O0)
     | _=>⟨fun t U=>dW P G (bE G t) U (.call c)⟩).run t U=_
   rw[hc]
 | _=>rfl
structure NU where
 run:N V->V->Nat->(N V->CR)->CR
structure Qc where
 run:V->N V->N V
def HC (j:Nat):Qc:=
 bif Nat.ble j 255 then⟨fun v t=>N.rec (motive:=fun _=>N V) (fun s m l=>⟨(xM<|Nat.div j 16).run s ((xM<|Nat.mod j 16).run ((kh<|Nat.div j 16).run s)<|some v),m,l⟩) t⟩
 else⟨fun v t=>t.put (some v) j⟩
theorem Nh (j:Nat) (v:V) (t:N V):(HC j).run v t=t.put (some v) j:=by
 unfold HC;cases h:Nat.ble j 255 with
 | true=>
  cases t with
  | mk s m l=>exact(N.s7 (some v) s m l ((oG j 255).1 h)).symm
 | false=>rfl
def Ni (j:Nat) (v:V) (t:N V):N V:=(HC j).run v t
theorem Ln (j:Nat) (v:V) (t:N V):Ni j v t=t.put (some v) j:=Nh j v t
def Ac (n:Nat) (dst:Option Nat):NU:=
 match dst with
 | none=>⟨fun t _ _ k=>k t⟩
 | some j=>bif Nat.ble (Nat.succ j) n then⟨fun t v _ k=>k (Ni j v t)⟩ else⟨fun _ _ e _=>.err e⟩
theorem Ad (n:Nat) (dst:Option Nat) (t:N V) (v:V) (e:Nat) (k:N V->CR):(Ac n dst).run t v e k=match dI t n dst v with | some t'=>k t' | none=>.err e:=by
 cases dst with
 | none=>rfl
 | some j=>
  show(bif Nat.ble (Nat.succ j) n then(⟨fun t v _ k=>k (Ni j v t)⟩:NU) else⟨fun _ _ e _=>.err e⟩).run t v e k=_;show _=match(bif Nat.ble (Nat.succ j) n then some (t.put (some v) j) else none) with | some t'=>k t' | none=>.err e
  rw[<-Ln];cases Nat.ble (Nat.succ j) n<;>rfl
structure Qa where
 run:lf->List V->D->KR
def PH (P:Program) (G:Cx) (ih:lf) (fn:Func) (r:CR):KR:=
 match r with
 | .ok .normal t d U=>x8 P G ih fn .ret t d U
 | .ok .ret t d U=>x8 P G ih fn .ret t d U
 | .ok (.mO v) t d U=>x8 P G ih fn (.mO v) t d U
 | .err k=>.err k
 | _=>.err 72
def MQ (P:Program) (G:Cx) (fn:Func) (c:Code) (ih:lf) (args:List V) (U:D):KR:=
 Option.rec (motive:=fun _=>KR) (.err 73) (fun t=>PH P G ih fn (ih c t fn.ntmps [] none U)) (ry fn.ntmps args)
def Pj (P:Program) (G:Cx) (f:Nat):Qa:=
 match nth P.funcs.toList f with
 | some fn=>match fn.body with
  | some c=>⟨MQ P G fn c⟩
  | none=>⟨fun _ _ _=>.err 73⟩
 | none=>⟨fun _ _ _=>.err 74⟩
theorem MP (P:Program) (G:Cx) (f:Nat) (ih:lf) (args:List V) (U:D):(Pj P G f).run ih args U=lj P G ih f args U:=by
 unfold Pj lj;rw[eF,aT_];cases P.funcs[f]? with
 | none=>rfl
 | some fn=>
  dsimp only;cases hb:fn.body with
  | none=>rfl
  | some c=>
   dsimp only;show MQ P G fn c ih args U=_;unfold MQ;cases ry fn.ntmps args with
   | none=>rfl
   | some t=>rfl
def Bm (P:Program) (G:Cx) (ih:lf) (f:Nat) (args:List V) (U:D):KR:=
 Option.rec (motive:=fun _=>KR) (Option.rec (motive:=fun _=>KR) (Option.rec (motive:=fun _=>KR) (bif G.fk f then sj (pX P G ih f args U) else(Pj P G f).run ih args U) (fun c=>.err c)<|G.stop f args U) (fun v=>bif eH args && (mD v && nD G.gl U G.laid) then .ret v U else .err 79)<|G.HD f args) (fun v=>bif mD v then .ret v U else .err 78) (G.HB f args U)
theorem Bn (P:Program) (G:Cx) (ih:lf) (f:Nat) (args:List V) (U:D):Bm P G ih f args U=mw P G ih f args U:=by
 unfold Bm mw;rw[MP];cases G.HB f args U with
 | some v=>rfl
 | none=>
 dsimp only;cases G.HD f args with
 | some v=>rfl
 | none=>
  dsimp only;cases G.stop f args U<;>rfl
structure Kf where
 run:lf->N V->D->(N V->D->CR)->CR
def K8 (k:N V->D->CR) (U:D) (t:N V):CR:=k t U
def PV (pn:Bool) (c:NU) (t:N V) (k:N V->D->CR) (r:KR):CR:=
 KR.rec (motive:=fun _=>CR) (fun v U=>c.run t v 80 (K8 k U)) (fun v U=>Lj pn v t U) (fun e=>.err e) r
def KV (P:Program) (G:Cx) (ih:lf) (pn:Bool) (c:NU) (t:N V) (k:N V->D->CR) (r:HR):CR:=
 HR.rec (motive:=fun _=>CR) (fun v U=>c.run t v 80 (K8 k U)) (fun U=>c.run t unit 80 (K8 k U)) (fun f args U=>PV pn c t k (Bm P G ih f args U)) (fun _ _ _=>.err 66) (fun v U=>Lj pn v t U) (fun e=>.err e) r
def JX (ops:Array Oper) (o:Oper) (c:NU) (t:N V) (U:D) (k:N V->D->CR) (go:CR) (w:Option Bool):CR:=
 Option.rec (motive:=fun _=>CR) (.err 85) (fun b=>bif b then go else c.run t unit 84 (K8 k U)) w
def PK (P:Program) (G:Cx) (j:Nat) (op:Op):Option Kf:=
 match op with
 | .move x=>some ⟨fun _ t U k=>Option.rec (motive:=fun _=>CR) (.err 1001) (fun v=>k ((HC j).run v t) U) ((oa G x).run t)⟩
 | .assign x=>some ⟨fun _ t U k=>Option.rec (motive:=fun _=>CR) (.err 1002) (fun v=>k ((HC j).run v t) U) ((oa G x).run t)⟩
 | .binOp o ty x y _=>some ⟨fun _ t U k=>Option.rec (motive:=fun _=>CR) (.err 1014) (fun v=>k ((HC j).run v t) U) (NX (NY P (yT x || yT y) o ty) ((oa G x).run t) ((oa G y).run t))⟩
 | .extract x i=>some ⟨fun _ t U k=>Option.rec (motive:=fun _=>CR) (.err 1036) (fun v=>k ((HC j).run v t) U) (N3 i ((oa G x).run t))⟩
 | .load ty x=>some ⟨fun _ t U k=>Option.rec (motive:=fun _=>CR) (.err 2009) (fun v=>k ((HC j).run v t) U) (B4 (dU P ty) U ((oa G x).run t))⟩
 | .fieldAddr s x i=>some ⟨fun _ t U k=>Option.rec (motive:=fun _=>CR) (.err 1024) (fun v=>k ((HC j).run v t) U) (OD (nV P s i) ((oa G x).run t))⟩
 | .indexAddr ty x i=>some ⟨fun _ t U k=>Option.rec (motive:=fun _=>CR) (.err 1026) (fun v=>k ((HC j).run v t) U) (OE (wJ P ty) ((oa G x).run t) ((oa G i).run t))⟩
 | _=>none
theorem Np {P:Program} {G:Cx} {pn:Bool} {n j:Nat} (hj:Nat.ble (Nat.succ j) n=true) {op:Op} {c:Kf} (h:PK P G j op=some c) (ih:lf) (t:N V) (U:D) (k:N V->D->CR):
  c.run ih t U k=KV P G ih pn (Ac n<|some j) t k ((Lh P G op).run t U):=by
 have key:∀(e:Nat) (x:Option V),Option.rec (motive:=fun _=>CR) (.err e) (fun v=>k ((HC j).run v t) U) x=KV P G ih pn (Ac n<|some j) t k (pG U e x):=by
  intro e x;cases x with
  | none=>rfl
  | some v=>
   show k ((HC j).run v t) U=(Ac n<|some j).run t v 80 (K8 k U);unfold Ac;dsimp only;rw[hj];rfl
 cases op<;>first | (cases h;done) | (cases h;exact key _ _)
def OY (P:Program) (G:Cx) (pn:Bool) (n:Nat) (o:Oper):Kf:=
 match o.dst with
 | some j=>bif Nat.ble (Nat.succ j) n then(match PK P G j o.op with | some c=>c | none=>⟨fun ih t U k=>KV P G ih pn (Ac n<|some j) t k ((Lh P G o.op).run t U)⟩) else⟨fun ih t U k=>KV P G ih pn (Ac n<|some j) t k ((Lh P G o.op).run t U)⟩
 | none=>⟨fun ih t U k=>KV P G ih pn (Ac n none) t k ((Lh P G o.op).run t U)⟩
theorem No (P:Program) (G:Cx) (pn:Bool) (n:Nat) (o:Oper) (ih:lf) (t:N V) (U:D) (k:N V->D->CR):(OY P G pn n o).run ih t U k=KV P G ih pn (Ac n o.dst) t k ((Lh P G o.op).run t U):=by
 unfold OY;cases hd:o.dst with
 | none=>rfl
 | some j=>
  dsimp only;cases hj:Nat.ble (Nat.succ j) n with
  | false=>rfl
  | true=>
   simp only[cond_true];cases hv:PK P G j o.op with
   | none=>rfl
   | some c=>exact Np hj hv ih t U k
def Kc (P:Program) (G:Cx) (pn:Bool) (ops:Array Oper) (n:Nat) (o:Oper):Kf:=
 match o.guard with
 | none=>OY P G pn n o
 | some _=>⟨fun ih t U k=>JX ops o (Ac n o.dst) t U k (KV P G ih pn (Ac n o.dst) t k ((Lh P G o.op).run t U)) (bM ops t o)⟩
theorem IG (P:Program) (G:Cx) (ih:lf) (pn:Bool) (n:Nat) (dst:Option Nat) (t:N V) (k:N V->D->CR) (r:HR):
  KV P G ih pn (Ac n dst) t k r=match lT P G ih r with | .ret v U'=>(match dI t n dst v with | some t'=>k t' U' | none=>.err 80) | .mO v U'=>Lj pn v t U' | .err e=>.err e:=by
 cases r with
 | val v U=>show(Ac n dst).run t v 80 (K8 k U)=_;rw[Ad];rfl
 | skip U=>show(Ac n dst).run t unit 80 (K8 k U)=_;rw[Ad];rfl
 | enter f args U=>
  show PV pn (Ac n dst) t k (Bm P G ih f args U)=_;rw[Bn];show _=match mw P G ih f args U with | .ret v U'=>_ | .mO v U'=>_ | .err e=>_
  cases mw P G ih f args U with
  | ret v U'=>show(Ac n dst).run t v 80 (K8 k U')=_;rw[Ad];rfl
  | mO v U'=>rfl
  | err e=>rfl
 | round l args U=>
  rfl
 | mO v U=>rfl
 | err e=>rfl
theorem Es (P:Program) (G:Cx) (pn:Bool) (ops:Array Oper) (n:Nat) (o:Oper) (ih:lf) (t:N V) (U:D) (k:N V->D->CR):(Kc P G pn ops n o).run ih t U k=ju P G ih pn ops n o t U k:=by
 unfold Kc ju;cases u:o.guard with
 | none=>
  have:bM ops t o=some true:=by unfold bM;rw[u]
  rw[this];show(OY P G pn n o).run ih t U k=_;rw[No,IG,Je]
  all_goals rfl
 | some jw=>
  show JX ops o (Ac n o.dst) t U k (KV P G ih pn (Ac n o.dst) t k ((Lh P G o.op).run t U)) (bM ops t o)=_;rw[IG,Je];unfold JX;cases bM ops t o with
  | none=>rfl
  | some b=>
   cases b with
   | true=>rfl
   | false=>show(Ac n o.dst).run t unit 84 (K8 k U)=_;rw[Ad];rfl
def Jr (P:Program) (G:Cx) (ops:Array Oper) (n:Nat) (l:List Oper):Kf:=
 List.rec (motive:=fun _=>Kf) ⟨fun _ t U k=>k t U⟩ (fun o _ c=>⟨fun ih t U k=>(Kc P G true ops n o).run ih t U (fun t U=>c.run ih t U k)⟩) l
def wh (d:List DE) (t:N V) (U:D):CR:=.ok .normal t d U
theorem FI (P:Program) (G:Cx) (ops:Array Oper) (n:Nat) (ih:lf) (d:List DE):∀(l:List Oper) (t:N V) (U:D),(Jr P G ops n l).run ih t U (wh d)=sW P G ih ops n d l t U
 | [],t,U=>rfl
 | o::l,t,U=>by
  show(Kc P G true ops n o).run ih t U (fun t U=>(Jr P G ops n l).run ih t U (wh d))=ju P G ih true ops n o t U (sW P G ih ops n d l);rw[Es];congr 1;funext t' U';exact FI P G ops n ih d l t' U'
def zA (P:Program) (G:Cx) (ops:Array Oper) (rc:List Nat) (k:N V->D->CR) (t:N V) (U:D):CR:=bif dn P G ops t U rc then k t U else .err 86
def xg (P:Program) (G:Cx) (ops:Array Oper) (n:Nat) (l:List (Nat×List Nat)):Kf:=
 List.rec (motive:=fun _=>Kf) ⟨fun _ t U k=>k t U⟩ (fun p _ c=>match nth ops.toList p.1 with
  | some o=>(match p.2 with
   | []=>⟨fun ih t U k=>(Kc P G false ops n o).run ih t U (fun t U=>c.run ih t U k)⟩
   | rc=>⟨fun ih t U k=>(Kc P G false ops n o).run ih t U (zA P G ops rc (fun t U=>c.run ih t U k))⟩)
  | none=>⟨fun _ _ _ _=>.err 87⟩) l
theorem xh (P:Program) (G:Cx) (ops:Array Oper) (n:Nat) (ih:lf) (d:List DE):∀(l:List (Nat×List Nat)) (t:N V) (U:D),(xg P G ops n l).run ih t U (wh d)=ke P G ih ops n d l t U
 | [],t,U=>rfl
 | (i,rc)::l,t,U=>by
  show(match nth ops.toList i with
   | some o=>(match rc with
    | []=>(⟨fun ih t U k=>(Kc P G false ops n o).run ih t U (fun t U=>(xg P G ops n l).run ih t U k)⟩:Kf)
    | rc=>⟨fun ih t U k=>(Kc P G false ops n o).run ih t U (zA P G ops rc (fun t U=>(xg P G ops n l).run ih t U k))⟩)
   | none=>⟨fun _ _ _ _=>.err 87⟩).run ih t U (wh d)=(match ops[i]? with
   | some o=>ju P G ih false ops n o t U (fun t' U'=>bif dn P G ops t' U' rc then ke P G ih ops n d l t' U' else .err 86)
   | none=>.err 87)
  rw[eF,aT_];cases ops[i]? with
  | none=>rfl
  | some o=>
   dsimp only;cases rc with
   | nil=>
    show(Kc P G false ops n o).run ih t U (fun t U=>(xg P G ops n l).run ih t U (wh d))=_;rw[Es];congr 1;funext t' U';exact xh P G ops n ih d l t' U'
   | cons q rc=>
    show(Kc P G false ops n o).run ih t U (zA P G ops (q::rc) (fun t U=>(xg P G ops n l).run ih t U (wh d)))=_;rw[Es];congr 1;funext t' U';unfold zA;dsimp only;rw[xh P G ops n ih d l t' U']
structure OZ where
 run:lf->N V->List DE->Option Pos->D->CR
def Pa (P:Program) (G:Cx) (c:Code) (n:Nat):OZ:=
 match c with
 | .skip | .label _=>⟨fun _ t d _ U=>.ok .normal t d U⟩
 | .region _ ops draw=>bif draw then(bif sb P ops then⟨fun ih t d _ U=>(xg P G ops n<|jB P ops).run ih t U (wh d)⟩ else⟨fun _ _ _ _ _=>.err 88⟩)
   else(bif lE ops.toList then⟨fun _ _ _ _ _=>.err 96⟩ else⟨fun ih t d _ U=>ya d ((Jr P G ops n ops.toList).run ih t U<|wh d)⟩)
 | .seq a b=>⟨fun ih t d ro U=>yj (ih a t n d ro U) (fun t d U=>ih b t n d ro U)⟩
 | .cond x a b=>⟨fun ih t d ro U=>yG ((oa G x).run t) (ih a t n d ro U) (ih b t n d ro U)⟩
 | .block id b=>⟨fun ih t d ro U=>tG id (ih b t n d ro U)⟩
 | .scope b=>⟨fun ih t d ro U=>Em (ih b t n d ro U)⟩
 | .loop b=>⟨fun ih t d ro U=>yj (ih b t n d ro U) (fun t d U=>ih (.loop b) t n d ro U)⟩
 | .exit id=>⟨fun _ t d _ U=>.ok (.exit id) t d U⟩
 | .ret=>⟨fun _ t d _ U=>.ok .ret t d U⟩
 | _=>⟨fun _ _ _ _ _=>.err 99⟩
theorem Mx (P:Program) (G:Cx) (c:Code) (n:Nat) (ih:lf) (t:N V) (d:List DE) (ro:Option Pos) (U:D):(Pa P G c n).run ih t d ro U=FQ P G ih c t n d ro U:=by
 cases c with
 | region id ops draw=>
  cases draw with
  | false=>
   show(bif lE ops.toList then(⟨fun _ _ _ _ _=>.err 96⟩:OZ) else⟨fun ih t d _ U=>ya d ((Jr P G ops n ops.toList).run ih t U<|wh d)⟩).run ih t d ro U=bif lE ops.toList then .err 96 else ya d (sW P G ih ops n d ops.toList t U);cases lE ops.toList with
   | true=>rfl
   | false=>
    show ya d ((Jr P G ops n ops.toList).run ih t U<|wh d)=ya d (sW P G ih ops n d ops.toList t U);rw[FI]
  | true=>
   show(bif sb P ops then(⟨fun ih t d _ U=>(xg P G ops n<|jB P ops).run ih t U (wh d)⟩:OZ) else⟨fun _ _ _ _ _=>.err 88⟩).run ih t d ro U=uF P G ih ops n d t U;unfold uF;cases sb P ops with
   | false=>rfl
   | true=>exact xh P G ops n ih d (jB P ops) t U
 | cond x a b=>show yG ((oa G x).run t) _ _=_;rw[jA];rfl
 | _=>rfl
def Nm (P:Program) (G:Cx) (fuel:Nat):lf:=Nat.rec (motive:=fun _=>lf) (fun _ _ _ _ _ _=>.err 100) (fun _ ih c t n d ro U=>(Pa P G c n).run ih t d ro U) fuel
theorem FM (P:Program) (G:Cx):∀(fuel:Nat),Nm P G fuel=ew P G fuel
 | 0=>rfl
 | k+1=>by
  funext c t n d ro U;show(Pa P G c n).run (Nm P G k) t d ro U=FQ P G (ew P G k) c t n d ro U;rw[Mx,FM P G k]
def BG (P:Program) (G:Cx) (fuel:Nat) (f:Nat) (args:List V) (U:D):KR:=Bm P G (Nm P G fuel) f args U
theorem Ir (P:Program) (G:Cx) (fuel:Nat) (f:Nat) (args:List V) (U:D):BG P G fuel f args U=wo P G fuel f args U:=by
 unfold BG wo;rw[Bn,FM]
end Go.Ev
namespace Go.Ev
variable [Env]
open Go.ChangeShapes Go.WideShapes Go.ChangeAt Go.RowKit
def yQ (one:TypeId->DataW Unit->Option (List Value)) (P:Program):List (Nat×TypeId)->Nat->List (DataW Unit)->Option (List Value)
 | [],_,[]=>some []
 | (o,t)::l,off,d::ds=>
  match one t d,yQ one P l (off+P.cellsOf t) ds with
  | some vs,some us=>if o=off/\vs.length=P.cellsOf t then some (vs++us) else none
  | _,_=>none
 | _,_,_=>none
def rI (P:Program):Nat->TypeId->DataW Unit->Option (List Value)
 | 0,_,_=>none
 | n+1,t,d=>
  match P.underlying t,d with
  | some .bool,.lit (.bool b)=>some [.bool b]
  | some (.int k),.lit (.int k' i)=>if k'=k then some [.int k i] else none
  | some (.struct fs),.agg ps=>match yQ (rI P n) P (fs.toList.map fun f=>(f.offset,f.type)) 0 ps with
   | some vs=>if vs.length=P.cellsOf t then some vs else none
   | none=>none
  | some (.array m e),.agg ps=>match yQ (rI P n) P ((List.range m).map fun i=>(i*P.cellsOf e,e)) 0 ps with
   | some vs=>if vs.length=P.cellsOf t then some vs else none
   | none=>none
  | _,_=>none
theorem wx {P:Program} {w:World} {base:Nat} {sp:Nat->Bool} {held:Bool} {fuel:Nat} {one:TypeId->DataW Unit->Option (List Value)} {cs:List Value}
  (ih:∀t l d p vs,DataW.trod (fun _=>()) P w base sp held fuel t l=some (d,p)->one t d=some vs->l=vs) {α:Type} (g:α->Nat×TypeId):
  ∀(l:List α) (off:Nat) (xs:List (DataW Unit×List MemPlace)) (vs:List Value),
   (l.mapM fun x=>DataW.trod (fun _=>()) P w base sp held fuel (g x).2 ((cs.drop (g x).1).take<|P.cellsOf (g x).2))=some xs->yQ one P (l.map g) off (xs.map (·.1))=some vs->
   (cs.drop off).take vs.length=vs
 | [],off,xs,vs,h,hf=>by
  simp at h;subst h;simp[yQ] at hf;subst hf;simp
 | x::l,off,xs,vs,h,hf=>by
  simp only[List.mapM_cons,Option.bind_eq_bind,Option.bind_eq_some_iff,Option.pure_def,oJ_] at h;obtain⟨⟨d,p⟩,h1,r,h2,rfl⟩:=h;simp only[List.map_cons,yQ] at hf;split at hf
  ·rename_i v1 u e1 z;split at hf
   ·rename_i hc;obtain⟨A,hl⟩:=hc;cases hf;have k1:=ih _ _ _ _ _ h1 e1;have k2:=wx ih g l _ r u h2 z;rw[lA_,List.take_add,hl,List.drop_drop,k2,<-A,k1]
   cases hf
  cases hf
theorem BK {P:Program} {w:World} {base:Nat} {sp:Nat->Bool} {held:Bool}:∀(m fuel:Nat) (t:TypeId) (cs:List Value) (d:DataW Unit) (p:List MemPlace) (vs:List Value),
  DataW.trod (fun _=>()) P w base sp held fuel t cs=some (d,p)->rI P m t d=some vs->cs=vs
 | 0,_,_,_,_,_,_,_,h=>by cases h
 | _+1,0,_,_,_,_,_,h,_=>by simp[DataW.trod] at h
 | m+1,fuel+1,t,cs,d,p,vs,h,hf=>by
  have ih:∀t l d p vs,DataW.trod (fun _=>()) P w base sp held fuel t l=some (d,p)->rI P m t d=some vs->l=vs:=fun t l d p vs=>BK m fuel t l d p vs
  simp only[rI] at hf;split at hf
  ·rename_i hu;cases hf;unfold DataW.trod at h;rw[hu] at h;split at h<;>simp_all
  ·rename_i hu;split at hf
   ·rename_i hk;cases hf;unfold DataW.trod at h;rw[hu] at h;split at h<;>simp_all
   cases hf
  ·rename_i fs ps hu;split at hf
   ·rename_i vs' A;split at hf
    ·rename_i hl;cases hf;unfold DataW.trod at h;rw[hu] at h;dsimp only at h;split at h
     ·rename_i u;obtain⟨xs,hm,hx⟩:=oM_.1 h;have z:ps=xs.map (·.1):=by have:=congrArg Prod.fst hx;simpa using this.symm
      subst z;have:=wx (cs:=cs) ih (fun f:Field=>(f.offset,f.type)) fs.toList 0 xs vs hm A;rw[List.drop_zero,hl,<-u,List.take_length] at this;exact this
     cases h
    cases hf
   cases hf
  ·rename_i n e ps hu;split at hf
   ·rename_i vs' A;split at hf
    ·rename_i hl;cases hf;unfold DataW.trod at h;rw[hu] at h;dsimp only at h;split at h
     ·rename_i u;obtain⟨xs,hm,hx⟩:=oM_.1 h;have z:ps=xs.map (·.1):=by have:=congrArg Prod.fst hx;simpa using this.symm
      subst z;have:=wx (cs:=cs) ih (fun i:Nat=>(i*P.cellsOf e,e)) (List.range n) 0 xs vs hm A;rw[List.drop_zero,hl,<-u,List.take_length] at this;exact this
     cases h
    cases hf
   cases hf
  cases hf
theorem oT {P:Program} {w:World} {l:List (String×DataW Unit)} (n:String) {d:DataW Unit} {g:Nat} {t:TypeId} {m:Nat} {vs:List Value}
  (h:laidMetH P l w) (hl:l.filter (fun x=>x.1 == n)= [(n,d)]) (C:d.handleName?=none) (z:P.globalNamed n=some g) (E:(P.globals[g]?).map (·.type)=some t) (hf:rI P m t d=some vs):
  ∃e fr,w.heap[g]?=some (.cells vs.toArray e fr):=by
 have h1:=h.filter fun x=>x.1 == n
 rw[hl] at h1
 have h2:laidMet P [(n,d)] w:=by
  unfold laidMetH at h1;simp only[List.filter_cons,C,List.filter_nil,Option.isSome_none] at h1;exact h1
 obtain⟨ps,⟨g',t',cs,fuel,p,q,A,k2,u,F,_,_⟩,_,_⟩:=h2;rw[z] at A;cases A;rw[E] at k2;cases k2;have k5:=BK m fuel t cs.toList d p vs F hf;unfold World.var? at u;rw[z] at u;simp only[Option.bind_some] at u;split at u
 ·rename_i cs' e fr G;cases u;exact⟨e,fr,by rw[G,<-k5]⟩
 cases u
theorem vI {α β:Type} {f:α->Option β}:∀{l:List α} {r:List β},cW f l=some r->r.length=l.length/\∀(i:Nat) (v:β),r[i]?=some v->∃y,l[i]?=some y/\f y=some v
 | [],r,h=>by
  rw[iK] at h;cases h;exact⟨Z,fun i v hv=>by simp at hv⟩
 | x::l,r,h=>by
  obtain⟨y,r',h1,h2,rfl⟩:=gX h;obtain⟨u,k2⟩:=vI h2;refine⟨by simp[u],fun i v hv=>?_⟩;cases i with
  | zero=>simp at hv;subst hv;exact⟨x,Z,h1⟩
  | succ i=>
   simp only[List.getElem?_cons_succ] at hv⊢;exact k2 i v hv
theorem lB.of {w:World} {g:Nat} {cells:List V} {vs:List Value} {e:TypeId} {fr:Nat×Nat} (hb:w.heap[g]?=some (.cells vs.toArray e fr)) (hv:cW kK vs=some cells):lB w (g,cells):=by
 obtain⟨z,k2⟩:=vI hv;refine⟨vs.toArray,e,fr,hb,by simp[z],fun i v hi=>?_⟩;obtain⟨y,hy,u⟩:=k2 i v hi;exact⟨y,by simpa using hy,oY u⟩
def UG (gl:Nat) (l:List (Nat×List V)) (E:Nat->TypeId):D:=⟨gl,IM l E⟩
theorem UG_get {gl:Nat} {l:List (Nat×List V)} {E:Nat->TypeId} {b:Nat} {o:cG} (h:(UG gl l E).m.get b=some o):∃x∈l,x.1=b/\o= .row x.2 (E x.1) true:=DW E h
def ue (w:World) (b:Nat):Nat:=
 match w.heap[b]? with
 | some (.cells cs _ _)=>cs.size
 | _=>0
def elemAt (w:World) (b:Nat):TypeId:=
 match w.heap[b]? with
 | some (.cells _ e _)=>e
 | _=>0
def SG (w:World) (gl:Nat):dh:=fun b=>if b<gl then some ⟨b,0,ue w b⟩ else none
theorem SG_some {w:World} {gl:Nat} {b:Nat} {l:Loc} (h:SG w gl b=some l):b<gl/\l=⟨b,0,ue w b⟩:=by
 unfold SG at h;split at h
 ·rename_i hb;cases h;exact⟨hb,Z⟩
 cases h
def AJ (gl:Nat) (l:List (Nat×List V)):Bool:=l.all fun x=>Nat.blt x.1 gl && eH x.2
theorem N6 {w:World} {gl:Nat} {l:List (Nat×List V)} (G:HG w) (A:gl<=w.heap.size) (C:AJ gl l=true) (hl:∀x∈l,lB w x):Inv (SG w gl) (UG gl l<|elemAt w) w:=by
 have u:∀x∈l,x.1<gl/\eH x.2=true:=fun x hx=>by
  have:=aE_.1 C x hx;rw[bA_,sE] at this;exact this
 refine⟨⟨fun b hb=>?_,fun b l' h=>?_,fun b o l' h1 h2=>?_,fun b b' o o' l1 l2 h1 h2 h3 h4 he aa=>?_⟩,G.1,G.2,fun r _ ⟨b,o,l',h1,h2,_,_⟩=>by
  obtain⟨x,_,_,rfl⟩:=UG_get h1;cases h2⟩
 ·have z:¬b<gl:=Nat.not_lt.2 hb;refine⟨by unfold SG;rw[if_neg z],?_⟩;cases h:(UG gl l<|elemAt w).m.get b with
  | none=>rfl
  | some o=>
   obtain⟨x,hx,rfl,_⟩:=UG_get h;exact absurd (u x hx).1 z
 ·obtain⟨hb,rfl⟩:=SG_some h;exact Nat.lt_of_lt_of_le hb A
 ·obtain⟨x,hx,rfl,rfl⟩:=UG_get h1;obtain⟨hb,rfl⟩:=SG_some h2;obtain⟨c,e,fr,E,k2,L⟩:=hl x hx;have K:ue w x.1=c.size:=by unfold ue;rw[E]
  have he:elemAt w x.1=e:=by unfold elemAt;rw[E]
  refine⟨_,E,c,fr,by rw[he],?_,?_,fun i v hv=>?_,fun h=>by cases h⟩
  ·simp[K]
  ·show x.2.length<=ue w x.1;rw[K];exact k2
  obtain⟨y,hy,F⟩:=L i v hv;exact⟨y,by simpa using hy,nX (lg (u x hx).2 v<|gB_ hv) F⟩
 obtain⟨x,hx,rfl,rfl⟩:=UG_get h1;obtain⟨y,hy,rfl,rfl⟩:=UG_get h2;exact⟨Z,Z⟩
theorem kr.Lf {w w':World} {gl:Nat} {l:List (Nat×List V)} {E:Nat->TypeId} {S S':dh} {U':D} (h:eY S (UG gl l E) w S' U' w'):kr w w':=
 ⟨h.os,h.out,h.tape,h.size,fun r u=>h.frame r u fun⟨b,o,l',h1,h2,_⟩=>by
  obtain⟨x,_,_,rfl⟩:=UG_get h1;cases h2⟩
def qp:KR->Bool
 | .ret (.bool true) _=>true
 | _=>false
theorem Ap {r:KR} (h:qp r=true):∃U,r= .ret (.bool true) U:=by
 unfold qp at h;split at h
 ·exact⟨_,Z⟩
 cases h
theorem Dk {P:Program} {G:Cx} (hm:P.follows .mixedOrders=true) (A:AQ P G) {fuel f:Nat} {w:World} (C:HG w) (u:G.gl<=w.heap.size) (z:AJ G.gl G.laid=true) (hl:∀x∈G.laid,lB w x)
  (h:∀E,qp (BG P G fuel f [] (UG G.gl G.laid E))=true):Calls P f #[] w fun e w'=>e= .returned (.bool true)/\kr w w':=by
 have h:=h (elemAt w);rw[Ir] at h;obtain⟨U,h⟩:=Ap h;refine pU hm A h (N6 C u z hl) (fun g F=>⟨_,by show SG w G.gl g=_;unfold SG;rw[if_pos F]⟩) dp.nil fun S' w' x _ st hv=>?_
 simp only[H] at hv;exact⟨by rw[hv],kr.Lf st⟩
theorem DV {P:Program} {G:Cx} (hm:P.follows .mixedOrders=true) (A:AQ P G) {fuel f:Nat} (u:AJ G.gl G.laid=true) (h:∀E,qp (BG P G fuel f [] (UG G.gl G.laid E))=true):EO P G.gl G.laid f [] (.bool true):=fun w xs z C hl hx=>by
 have:xs= #[]:=by
  have:=hx.eQ;rw[<-Array.toList_inj];exact this
 subst this;exact(Dk hm A (w:=w) C z u hl h).mono fun e w' ⟨h1,h2⟩=>⟨_,h1,by simp only[H],h2⟩
end Go.Ev
namespace Go.Ev
variable [Env]
section
variable {P:Program} {G:Cx}
def Ev (P:Program) (G:Cx) (c:Code) (n:Nat) (t:N V) (U:D) (Q:Ex->N V->D->Prop):Prop:=
 ∃(K:Nat) (e:Ex) (t':N V) (U':D),(∀k,K<=k->ew P G k c t n [] none U= .ok e t' [] U')/\Q e t' U'
def bk (P:Program) (G:Cx) (f:Nat) (args:List V) (U:D) (R:V->D->Prop):Prop:=
 ∃(K:Nat) (v:V) (U':D),(∀k,K<=k->mw P G (ew P G k) f args U= .ret v U')/\R v U'
def bP (P:Program) (G:Cx) (ops:Array Oper) (n:Nat) (l:List Oper) (t:N V) (U:D) (Q:Ex->N V->D->Prop):Prop:=
 ∃(K:Nat) (e:Ex) (t':N V) (U':D),(∀k,K<=k->sW P G (ew P G k) ops n [] l t U= .ok e t' [] U')/\Q e t' U'
def cE (P:Program) (G:Cx) (ops:Array Oper) (n:Nat) (l:List (Nat×List Nat)) (t:N V) (U:D) (Q:Ex->N V->D->Prop):Prop:=
 ∃(K:Nat) (e:Ex) (t':N V) (U':D),(∀k,K<=k->ke P G (ew P G k) ops n [] l t U= .ok e t' [] U')/\Q e t' U'
theorem Ev.mono {c:Code} {n:Nat} {t:N V} {U:D} {Q Q':Ex->N V->D->Prop} (h:Ev P G c n t U Q) (hq:∀e t' U',Q e t' U'->Q' e t' U'):Ev P G c n t U Q':=
 let ⟨K,e,t',U',h1,h2⟩:=h;⟨K,e,t',U',h1,hq _ _ _ h2⟩
theorem bk.mono {f:Nat} {args:List V} {U:D} {R R':V->D->Prop} (h:bk P G f args U R) (hq:∀v U',R v U'->R' v U'):bk P G f args U R':=
 let ⟨K,v,U',h1,h2⟩:=h;⟨K,v,U',h1,hq _ _ h2⟩
section
variable {n:Nat} {t:N V} {U:D} {Q:Ex->N V->D->Prop}
theorem aG (h:Q .normal t U):Ev P G .skip n t U Q:=⟨1,.normal,t,U,fun k hk=>by obtain⟨j,rfl⟩:∃j,k=j+1:=⟨k-1,by omega⟩;rfl,h⟩
theorem Io {l:Nat} (h:Q .normal t U):Ev P G (.label l) n t U Q:=⟨1,.normal,t,U,fun k hk=>by obtain⟨j,rfl⟩:∃j,k=j+1:=⟨k-1,by omega⟩;rfl,h⟩
theorem bx {id:Nat} (h:Q (.exit id) t U):Ev P G (.exit id) n t U Q:=⟨1,_,t,U,fun k hk=>by obtain⟨j,rfl⟩:∃j,k=j+1:=⟨k-1,by omega⟩;rfl,h⟩
theorem aB (h:Q .ret t U):Ev P G .ret n t U Q:=⟨1,_,t,U,fun k hk=>by obtain⟨j,rfl⟩:∃j,k=j+1:=⟨k-1,by omega⟩;rfl,h⟩
def cN (P:Program) (G:Cx) (n:Nat) (b:Code) (Q:Ex->N V->D->Prop) (e:Ex) (t:N V) (U:D):Prop:=
 match e with
 | .normal=>Ev P G b n t U Q
 | e=>Q e t U
theorem ak {a b:Code} (h:Ev P G a n t U (cN P G n b Q)):Ev P G (.seq a b) n t U Q:=by
 obtain⟨K,e,t',U',h1,h2⟩:=h
 have step:∀k,K<=k->ew P G (k+1) (.seq a b) t n [] none U=yj (.ok e t' [] U') (fun t d U=>ew P G k b t n d none U):=fun k hk=>by
  show yj (ew P G k a t n [] none U) (fun t d U=>ew P G k b t n d none U)=_;rw[h1 k hk]
 cases e with
 | normal=>
  obtain⟨u,z,A,C,E,h4⟩:=h2;refine⟨max K u+1,z,A,C,fun k hk=>?_,h4⟩;obtain⟨j,rfl⟩:∃j,k=j+1:=⟨k-1,by omega⟩;rw[step j B];exact E j B
 | _=>
  refine⟨K+1,_,t',U',fun k hk=>?_,h2⟩;obtain⟨j,rfl⟩:∃j,k=j+1:=⟨k-1,by omega⟩;rw[step j B];rfl
theorem zP {x:Operand} {a b:Code} {c:Bool} (hc:bE G t x=some (.bool c)) (h:Ev P G (if c then a else b) n t U Q):Ev P G (.cond x a b) n t U Q:=by
 obtain⟨K,e,t',U',h1,h2⟩:=h;refine⟨K+1,e,t',U',fun k hk=>?_,h2⟩;obtain⟨j,rfl⟩:∃j,k=j+1:=⟨k-1,by omega⟩;show yG (bE G t x) (ew P G j a t n [] none U) (ew P G j b t n [] none U)=_;rw[hc];have:=h1 j B;cases c<;>exact this
def iL (id:Nat) (Q:Ex->N V->D->Prop) (e:Ex) (t:N V) (U:D):Prop:=
 match e with
 | .exit j=>if j=id then Q .normal t U else Q (.exit j) t U
 | e=>Q e t U
theorem aN {id:Nat} {b:Code} (h:Ev P G b n t U (iL id Q)):Ev P G (.block id b) n t U Q:=by
 obtain⟨K,e,t',U',h1,h2⟩:=h
 have step:∀k,K<=k->ew P G (k+1) (.block id b) t n [] none U=tG id (.ok e t' [] U'):=fun k hk=>by
  show tG id (ew P G k b t n [] none U)=_;rw[h1 k hk]
 cases e with
 | exit q=>
  by_cases hq:q=id
  ·subst hq;refine⟨K+1,.normal,t',U',fun k hk=>?_,by simpa [iL] using h2⟩;obtain⟨j,rfl⟩:∃j,k=j+1:=⟨k-1,by omega⟩;rw[step j B];show(bif Nat.beq q q then _ else _)=_;rw[Nat.beq_refl];rfl
  refine⟨K+1,.exit q,t',U',fun k hk=>?_,by simpa [iL,hq] using h2⟩;obtain⟨j,rfl⟩:∃j,k=j+1:=⟨k-1,by omega⟩;rw[step j B];show(bif Nat.beq q id then _ else _)=_
  have:Nat.beq q id=false:=by
   cases u:Nat.beq q id with
   | false=>rfl
   | true=>exact absurd (nB u) hq
  rw[this];rfl
 | _=>
  refine⟨K+1,_,t',U',fun k hk=>?_,h2⟩;obtain⟨j,rfl⟩:∃j,k=j+1:=⟨k-1,by omega⟩;rw[step j B];rfl
theorem KH {b:Code} (I_:Nat->N V->D->Prop) (step:∀j t U,I_ j t U->Ev P G b n t U (fun e t' U'=>match e with | .normal=>∃i,i<j/\I_ i t' U' | e=>Q e t' U')):
  ∀(j:Nat) (t:N V) (U:D),I_ j t U->Ev P G (.loop b) n t U Q:=by
 intro j;induction j using Nat.strongRecOn with
 | _ j ih=>
  intro t U z;obtain⟨K,e,t',U',h1,h2⟩:=step j t U z
  have st:∀k,K<=k->ew P G (k+1) (.loop b) t n [] none U=yj (.ok e t' [] U') (fun t d U=>ew P G k (.loop b) t n d none U):=fun k hk=>by
   show yj (ew P G k b t n [] none U) (fun t d U=>ew P G k (.loop b) t n d none U)=_;rw[h1 k hk]
  cases e with
  | normal=>
   obtain⟨i,hi,u⟩:=h2;obtain⟨A,C,E,F,L,h4⟩:=ih i hi t' U' u;refine⟨max K A+1,C,E,F,fun k hk=>?_,h4⟩;obtain⟨q,rfl⟩:∃q,k=q+1:=⟨k-1,by omega⟩;rw[st q B];exact L q B
  | _=>
   refine⟨K+1,_,t',U',fun k hk=>?_,h2⟩;obtain⟨q,rfl⟩:∃q,k=q+1:=⟨k-1,by omega⟩;rw[st q B];rfl
theorem ai {id:Nat} {ops:Array Oper} (u:lE ops.toList=false) (h:bP P G ops n ops.toList t U Q):Ev P G (.region id ops false) n t U Q:=by
 obtain⟨K,e,t',U',h1,h2⟩:=h;refine⟨K+1,e,t',U',fun k hk=>?_,h2⟩;obtain⟨j,rfl⟩:∃j,k=j+1:=⟨k-1,by omega⟩;show(bif lE ops.toList then .err 96 else ya [] (sW P G (ew P G j) ops n [] ops.toList t U))=_;rw[u,h1 j B];cases e<;>rfl
theorem wm {id:Nat} {ops:Array Oper} (hf:sb P ops=true) (h:cE P G ops n (jB P ops) t U Q):Ev P G (.region id ops true) n t U Q:=by
 obtain⟨K,e,t',U',h1,h2⟩:=h;refine⟨K+1,e,t',U',fun k hk=>?_,h2⟩;obtain⟨j,rfl⟩:∃j,k=j+1:=⟨k-1,by omega⟩;show uF P G (ew P G j) ops n [] t U=_;unfold uF;rw[hf];exact h1 j B
theorem af {ops:Array Oper} (h:Q .normal t U):bP P G ops n [] t U Q:=⟨0,.normal,t,U,fun _ _=>Z,h⟩
theorem O {ops:Array Oper} {o:Oper} {l:List Oper} {v:V} {t':N V} {U':D} (hw:bM ops t o=some true) (hv:dW P G (bE G t) U o.op= .val v U') (hp:dI t n o.dst v=some t') (h:bP P G ops n l t' U' Q):bP P G ops n (o::l) t U Q:=by
 obtain⟨K,e,u,z,h1,h2⟩:=h;refine⟨K,e,u,z,fun k hk=>?_,h2⟩;show ju P G (ew P G k) true ops n o t U (sW P G (ew P G k) ops n [] l)=_;unfold ju;rw[hw];dsimp only;rw[hv];dsimp only[lT];rw[hp];exact h1 k hk
theorem iO {ops:Array Oper} {o:Oper} {l:List Oper} {t':N V} {U':D} (hw:bM ops t o=some true) (hv:dW P G (bE G t) U o.op= .skip U') (hp:dI t n o.dst unit=some t') (h:bP P G ops n l t' U' Q):bP P G ops n (o::l) t U Q:=by
 obtain⟨K,e,u,z,h1,h2⟩:=h;refine⟨K,e,u,z,fun k hk=>?_,h2⟩;show ju P G (ew P G k) true ops n o t U (sW P G (ew P G k) ops n [] l)=_;unfold ju;rw[hw];dsimp only;rw[hv];dsimp only[lT];rw[hp];exact h1 k hk
theorem ae {ops:Array Oper} {o:Oper} {l:List Oper} {t':N V} (hw:bM ops t o=some false) (hp:dI t n o.dst unit=some t') (h:bP P G ops n l t' U Q):bP P G ops n (o::l) t U Q:=by
 obtain⟨K,e,u,z,h1,h2⟩:=h;refine⟨K,e,u,z,fun k hk=>?_,h2⟩;show ju P G (ew P G k) true ops n o t U (sW P G (ew P G k) ops n [] l)=_;unfold ju;rw[hw];dsimp only;rw[hp];exact h1 k hk
theorem DD {ops:Array Oper} {o:Oper} {l:List Oper} {f:Nat} {args:List V} {u:D} (hw:bM ops t o=some true) (hv:dW P G (bE G t) U o.op= .enter f args u)
  (h:bk P G f args u fun v U'=>∃t',dI t n o.dst v=some t'/\bP P G ops n l t' U' Q):bP P G ops n (o::l) t U Q:=by
 obtain⟨K,v,U',h1,t',hp,z,e,A,C,E,h4⟩:=h;refine⟨max K z,e,A,C,fun k hk=>?_,h4⟩;show ju P G (ew P G k) true ops n o t U (sW P G (ew P G k) ops n [] l)=_;unfold ju;rw[hw];dsimp only;rw[hv];dsimp only[lT];rw[h1 k B];dsimp only;rw[hp];exact E k B
theorem ba {ops:Array Oper} (h:Q .normal t U):cE P G ops n [] t U Q:=⟨0,.normal,t,U,fun _ _=>Z,h⟩
theorem al {ops:Array Oper} {i:Nat} {o:Oper} {l:List (Nat×List Nat)} {v:V} {t':N V} {U':D} (hi:ops[i]?=some o) (hw:bM ops t o=some true) (hv:dW P G (bE G t) U o.op= .val v U') (hp:dI t n o.dst v=some t') (h:cE P G ops n l t' U' Q):cE P G ops n ((i,[])::l) t U Q:=by
 obtain⟨K,e,u,z,h1,h2⟩:=h;refine⟨K,e,u,z,fun k hk=>?_,h2⟩
 show(match ops[i]? with
  | some o=>ju P G (ew P G k) false ops n o t U (fun t' U'=>bif dn P G ops t' U' [] then ke P G (ew P G k) ops n [] l t' U' else .err 86)
  | none=>.err 87)=_
 rw[hi];unfold ju;dsimp only;rw[hw];dsimp only;rw[hv];dsimp only[lT];rw[hp];exact h1 k hk
theorem au {ops:Array Oper} {i:Nat} {o:Oper} {l:List (Nat×List Nat)} {t':N V} (hi:ops[i]?=some o) (hw:bM ops t o=some false) (hp:dI t n o.dst unit=some t') (h:cE P G ops n l t' U Q):cE P G ops n ((i,[])::l) t U Q:=by
 obtain⟨K,e,u,z,h1,h2⟩:=h;refine⟨K,e,u,z,fun k hk=>?_,h2⟩
 show(match ops[i]? with
  | some o=>ju P G (ew P G k) false ops n o t U (fun t' U'=>bif dn P G ops t' U' [] then ke P G (ew P G k) ops n [] l t' U' else .err 86)
  | none=>.err 87)=_
 rw[hi];unfold ju;dsimp only;rw[hw];dsimp only;rw[hp];exact h1 k hk
theorem BE {ops:Array Oper} {i:Nat} {o:Oper} {rc:List Nat} {l:List (Nat×List Nat)} {f:Nat} {args:List V} {u:D} (hi:ops[i]?=some o) (hw:bM ops t o=some true) (hv:dW P G (bE G t) U o.op= .enter f args u)
  (h:bk P G f args u fun v U'=>∃t',dI t n o.dst v=some t'/\dn P G ops t' U' rc=true/\cE P G ops n l t' U' Q):cE P G ops n ((i,rc)::l) t U Q:=by
 obtain⟨K,v,U',h1,t',hp,z,A,e,C,E,F,h4⟩:=h;refine⟨max K A,e,C,E,fun k hk=>?_,h4⟩
 show(match ops[i]? with
  | some o=>ju P G (ew P G k) false ops n o t U (fun t' U'=>bif dn P G ops t' U' rc then ke P G (ew P G k) ops n [] l t' U' else .err 86)
  | none=>.err 87)=_
 rw[hi];unfold ju;dsimp only;rw[hw];dsimp only;rw[hv];dsimp only[lT];rw[h1 k B];dsimp only;rw[hp];dsimp only;rw[z];exact F k B
end
theorem KG {f:Nat} {fn:Func} {c:Code} {args:List V} {U:D} {R:V->D->Prop} {t:N V} (z:G.HB f args U=none) (A:G.HD f args=none) (u:G.stop f args U=none) (C:G.fk f=false)
  (hf:P.funcs[f]?=some fn) (hb:fn.body=some c) (E:ry fn.ntmps args=some t)
  (h:Ev P G c fn.ntmps t U fun e t' U'=>(e= .normal∨e= .ret)/\∃v,fm P fn t' U'=some v/\R v U'):bk P G f args U R:=by
 obtain⟨K,e,t',U',h1,he,v,h2,F⟩:=h;refine⟨K,v,U',fun k hk=>?_,F⟩;unfold mw;rw[z];dsimp only;rw[A];dsimp only;rw[u];dsimp only;rw[C];simp only[cond_false];unfold lj;rw[hf];dsimp only;rw[hb,E];dsimp only;rw[h1 k hk];rcases he with rfl | rfl<;>
 ·dsimp only;unfold x8;rw[show wP P G (ew P G k) [] .ret U'=some (.ret,U') from Z];dsimp only;rw[h2]
theorem Im {f:Nat} {args:List V} {U:D} {R:V->D->Prop} {v:V} (u:G.HB f args U=none) (z:G.HD f args=some v) (h1:eH args=true) (h2:mD v=true) (A:nD G.gl U G.laid=true) (h:R v U):bk P G f args U R:=by
 refine⟨0,v,U,fun k _=>?_,h⟩;unfold mw;rw[u];dsimp only;rw[z];dsimp only;rw[h1,h2,A];rfl
end
def qw (P:Program):List Field->Nat->Option Nat
  | [],off=>some off
  | f::r,off=>if f.offset=off then qw P r (off+P.cellsOf f.type) else none
def dz {H_:Type} (P:Program) (U:D):Nat->TypeId->DataW H_->List V->Prop
  | 0,_,_,_=>False
  | fuel+1,t,d,vs=>
    match P.underlying t,d with
    | some .bool,.lit (.bool b)=>vs= [.bool b]
    | some (.int k),.lit (.int k' n)=>k'=k/\(Lit.int k n).wf=true/\vs= [.int k n]
    | some .string,.lit (.string s)=>s.length<=maxLen/\vs= [.str<|s.map UInt8.toNat]
    | some (.slice _),.nil=>vs= [.ax]
    | some (.slice e),.slice elems spare=>1<=P.cellsOf e->∃(b:Nat) (c:pH) (cells:List V) (e':Nat),vs= [.slice b 0 elems.length c]/\elems.length<=maxLen/\U.m.get b=some (.row cells e' true)/\
        (c= .known (elems.length+spare.length)∨c= .upto (P.cellsOf e))/\cells.length=elems.length*P.cellsOf e/\
        ∀(i:Nat) (x:DataW H_),elems[i]?=some x->dz P U fuel e x ((cells.drop (i*P.cellsOf e)).take<|P.cellsOf e)
    | some (.struct fs),.agg parts=>qw P fs.toList 0=some (P.cellsOf t)->parts.length=fs.size/\vs.length=P.cellsOf t/\
        ∀(i:Nat) (f:Field) (x:DataW H_),fs[i]?=some f->parts[i]?=some x->dz P U fuel f.type x ((vs.drop f.offset).take<|P.cellsOf f.type)
    | some (.array n e),.agg parts=>P.cellsOf t=n*P.cellsOf e->parts.length=n/\vs.length=P.cellsOf t/\
        ∀(i:Nat) (x:DataW H_),parts[i]?=some x->dz P U fuel e x ((vs.drop (i*P.cellsOf e)).take<|P.cellsOf e)
    | _,_=>True
theorem dz.mono {H_:Type} {P:Program} {U U':D} (he:∀(b:Pos) (o:cG),U.m.get b=some o->U'.m.get b=some o):∀(fuel:Nat) (t:TypeId) (d:DataW H_) (vs:List V),dz P U fuel t d vs->dz P U' fuel t d vs
  | 0,_,_,_,h=>h
  | fuel+1,t,d,vs,h=>by
    unfold dz at h⊢;split at h
    · exact h
    · exact h
    · exact h
    · exact h
    · intro h1
      obtain⟨b,c,cells,e',u,k2,z,A,C,E⟩:=h h1;exact⟨b,c,cells,e',u,k2,he _ _ z,A,C,fun i x hx=>dz.mono he fuel _ _ _ (E i x hx)⟩
    · intro h1
      obtain⟨u,k2,z⟩:=h h1;exact⟨u,k2,fun i f x hf hx=>dz.mono he fuel _ _ _ (z i f x hf hx)⟩
    · intro h1
      obtain⟨u,k2,z⟩:=h h1;exact⟨u,k2,fun i x hx=>dz.mono he fuel _ _ _ (z i x hx)⟩
    · trivial
theorem dp.flatten {S:dh}:∀{vss:List (List V)} {css:List (List Value)},vss.length=css.length->(∀(i:Nat) (vs:List V) (cs:List Value),vss[i]?=some vs->css[i]?=some cs->dp S vs cs)->dp S vss.flatten css.flatten
  | [],[],_,_=>dp.nil
  | [],_::_,h,_=>by simp at h
  | _::_,[],h,_=>by simp at h
  | vs::vss,cs::css,h,u=>by
    rw[List.flatten_cons,List.flatten_cons];exact(u 0 vs cs Z Z).append (dp.flatten (by simpa using h) fun i a b z hb=>u (i+1) a b (by simpa using z) (by simpa using hb))
theorem nz {α:Type} {m:Nat}:∀{l:List (List α)} {i:Nat} {x:List α},(∀y∈l,y.length=m)->l[i]?=some x->(l.flatten.drop (i*m)).take m=x
  | [],i,x,_,h=>by simp at h
  | y::l,0,x,hm,h=>by
    simp at h;subst h;have hy:=hm y (by simp);simp[<-hy]
  | y::l,i+1,x,hm,h=>by
    have hy:=hm y (by simp);simp only[List.getElem?_cons_succ] at h;rw[List.flatten_cons,show(i+1)*m=y.length+i*m by rw[hy,Nat.succ_mul,Nat.add_comm],List.drop_append,List.drop_eq_nil_of_le B,List.nil_append,Nat.add_sub_cancel_left];exact nz (fun z u=>hm z (by simp[u])) h
theorem pW {α:Type} {m:Nat}:∀{l:List (List α)},(∀y∈l,y.length=m)->l.flatten.length=l.length*m
  | [],_=>by simp
  | y::l,hm=>by
    rw[List.flatten_cons,lA_,hm y (by simp),pW fun z u=>hm z (by simp[u]),List.length_cons,Nat.succ_mul,Nat.add_comm]
theorem nN {α:Type} {P:Program}:∀{fs:List Field} {off fin:Nat} {cs:List α},qw P fs off=some fin->fin<=cs.length->(fs.map fun f=>(cs.drop f.offset).take (P.cellsOf f.type)).flatten=(cs.drop off).take (fin-off)/\off<=fin
  | [],off,fin,cs,h,_=>by simp only[qw,oJ_] at h;subst h;simp
  | f::fs,off,fin,cs,h,hl=>by
    simp only[qw] at h;split at h
    · rename_i u
      obtain⟨h1,h2⟩:=nN h hl;refine⟨?_,by omega⟩;rw[List.map_cons,List.flatten_cons,h1,u];rw[show fin-off=P.cellsOf f.type+(fin-(off+P.cellsOf f.type)) by omega,List.take_add,List.drop_drop]
    · cases h
theorem uY {α:Type} {P:Program}:∀{fs:List Field} {vss:List (List α)} {off fin:Nat},qw P fs off=some fin->(∀(i:Nat) (f:Field) (vs:List α),fs[i]?=some f->vss[i]?=some vs->vs.length=P.cellsOf f.type)->vss.length=fs.length->
    ∀{i:Nat} {f:Field} {vs:List α},fs[i]?=some f->vss[i]?=some vs->off<=f.offset/\(vss.flatten.drop (f.offset-off)).take (P.cellsOf f.type)=vs
  | [],vss,off,fin,h,hl,hn,i,f,vs,hf,hv=>by simp at hf
  | g::fs,[],off,fin,h,hl,hn,i,f,vs,hf,hv=>by simp at hv
  | g::fs,w::vss,off,fin,h,hl,hn,i,f,vs,hf,hv=>by
    simp only[qw] at h;split at h
    · rename_i u
      have hw:=hl 0 g w Z Z;cases i with
      | zero=>
        simp at hf hv;subst hf;subst hv;refine⟨by omega,?_⟩;rw[u,Nat.sub_self,List.drop_zero,List.flatten_cons,<-hw];simp
      | succ i=>
        simp only[List.getElem?_cons_succ] at hf hv;obtain⟨h1,h2⟩:=uY h (fun i f vs a b=>hl (i+1) f vs (by simpa using a) (by simpa using b)) (by simpa using hn) hf hv;refine⟨by omega,?_⟩;rw[List.flatten_cons,show f.offset-off=w.length+(f.offset-(off+P.cellsOf g.type)) by omega,List.drop_append,List.drop_eq_nil_of_le B,List.nil_append,Nat.add_sub_cancel_left];exact h2
    · cases h
def ld (U:D):Prop:=∀b o,U.m.get b=some o->o.ro=true
structure CX (S:dh) (U:D) (S':dh) (U':D):Prop where
  le:S.le S'
  get:∀(b:Pos) (o:cG),U.m.get b=some o->U'.m.get b=some o
theorem CX.refl (S:dh) (U:D):CX S U S U:=⟨dh.le_refl S,fun _ _ h=>h⟩
theorem CX.trans {S u z:dh} {U A U2:D} (h:CX S U u A) (h':CX u A z U2):CX S U z U2:=⟨dh.le_trans h.le h'.le,fun b o hb=>h'.get b o (h.get b o hb)⟩
theorem Inv.L4 {S:dh} {U:D} {w:World} (hi:Inv S U w) (M:ld U) {l:Loc} {o:cG} {x:Obj} (hx:w.heap[l.dE]?=some x) (Q:iF S l o x) (G:o.ro=true):
    Inv (S.with U.next l) (U.alloc o) w/\ld (U.alloc o)/\CX S U (S.with U.next l) (U.alloc o):=by
  have hle:=hi.vA l;have K:l.dE<w.heap.size:=(aS_.1 hx).1;have E:∀b l',b≠U.next->(S.with U.next l) b=some l'->S b=some l':=fun b l' hb h=>by rwa[dh.dT S l hb] at h
  have z:∀b,b≠U.next->(U.alloc o).m.get b=U.m.get b:=fun b hb=>N.dv _ _ _ _ hb
  have C:(U.alloc o).m.get U.next=some o:=N.dA _ _ _
  have A:ld (U.alloc o):=fun b q hb=>by
    by_cases e:b=U.next
    · subst e;rw[C] at hb;cases hb;exact G
    · rw[z b e] at hb;exact M b q hb
  refine⟨⟨⟨fun b hb=>?_,fun b l' hb=>?_,fun b o' l' hb F=>?_,fun b b' o₁ o₂ l₁ l₂ h1 h2 _ _ _ _=>⟨A b o₁ h1,A b' o₂ h2⟩⟩,hi.pI.size,hi.pI.same,fun r _ ⟨b,o,l,h1,h2,_,_⟩=>by rw[A b o h1] at h2;cases h2⟩,A,hle,fun b q hb=>?_⟩
  · have aa:U.next.num+1<=b.num:=by simpa [D.alloc,Pos.jt] using hb
    have u:b≠U.next:=fun e=>by subst e;omega
    rw[dh.dT S l u,z b u];exact hi.fresh b B
  · by_cases u:b=U.next
    · subst u;rw[dh.cZ] at hb;cases hb;exact K
    · exact hi.dE b l'<|E b l' u hb
  · by_cases u:b=U.next
    · subst u
      rw[dh.cZ] at F;rw[C] at hb;cases hb;cases F;exact⟨x,hx,Q.mono hle⟩
    · rw[z b u] at hb
      obtain⟨y,hy,L⟩:=hi.obj b o' l' hb (E b l' u F);exact⟨y,hy,L.mono hle⟩
  · have u:b≠U.next:=fun e=>by subst e;rw[(hi.fresh _<|nR_ _).2] at hb;cases hb
    rw[z b u];exact hb
section
variable {H_:Type} {enc:TypeId×Value->H_} {P:Program} {w:World}
def HF (enc:TypeId×Value->H_) (P:Program) (w:World) (fuel:Nat) (t:TypeId) (cs:List Value) (d:DataW H_):Prop:=
  ∀(S:dh) (U:D),Inv S U w->ld U->∃(S':dh) (U':D) (vs:List V),Inv S' U' w/\ld U'/\CX S U S' U'/\dz P U' fuel t d vs/\dp S' vs cs
theorem NW {S:dh}:∀(cs:List Value),dp S (cs.map fun _=>V.any) cs
  | []=>dp.nil
  | _::cs=>dp.cons (by simp only[H]) (NW cs)
theorem qQ {fuel:Nat} (ih:∀t cs d p,DataW.trod enc P w 0 (fun _=>true) true fuel t cs=some (d,p)->HF enc P w fuel t cs d):
    ∀(l:List (TypeId×List Value)) (xs:List (DataW H_×List MemPlace)),(l.mapM fun q=>DataW.trod enc P w 0 (fun _=>true) true fuel q.1 q.2)=some xs->∀(S:dh) (U:D),Inv S U w->ld U->
      ∃(S':dh) (U':D) (vss:List (List V)),Inv S' U' w/\ld U'/\CX S U S' U'/\vss.length=l.length/\xs.length=l.length/\∀(i:Nat) (q:TypeId×List Value) (x:DataW H_×List MemPlace) (vs:List V),l[i]?=some q->xs[i]?=some x->vss[i]?=some vs->dz P U' fuel q.1 x.1 vs/\dp S' vs q.2
  | [],xs,h,S,U,hi,u=>by
    simp at h;subst h;exact⟨S,U,[],hi,u,CX.refl _ _,Z,Z,fun i q x vs hq=>by simp at hq⟩
  | q::l,xs,h,S,U,hi,u=>by
    simp only[List.mapM_cons,Option.bind_eq_bind,Option.bind_eq_some_iff,Option.pure_def,oJ_] at h;obtain⟨⟨d,p⟩,h1,r,h2,rfl⟩:=h;obtain⟨z,A,vs,C,E,l1,F,G⟩:=ih _ _ _ _ h1 S U hi u;obtain⟨K,L,vss,M,Q,l2,n1,R,W⟩:=qQ ih l r h2 z A C E;refine⟨K,L,vs::vss,M,Q,l1.trans l2,by simp[n1],by simp[R],fun i q' x vs' hq hx hv=>?_⟩;cases i with
    | zero=>
      simp at hq hx hv;subst hq;subst hx;subst hv;exact⟨dz.mono l2.get _ _ _ _ F,dp.mono l2.le _ _ G⟩
    | succ i=>exact W i q' x vs' (by simpa using hq) (by simpa using hx) (by simpa using hv)
theorem mL {α β:Type} {f:α->Option β}:∀{l:List α} {ys:List β},l.mapM f=some ys->ys.length=l.length/\∀(i:Nat) (y:β),ys[i]?=some y->∃x,l[i]?=some x/\f x=some y
  | [],ys,h=>by simp at h;subst h;exact⟨Z,fun i y hy=>by simp at hy⟩
  | x::l,ys,h=>by
    simp only[List.mapM_cons,Option.bind_eq_bind,Option.bind_eq_some_iff,Option.pure_def,oJ_] at h;obtain⟨y,h1,r,h2,rfl⟩:=h;obtain⟨A,k2⟩:=mL h2;refine⟨by simp[A],fun i z u=>?_⟩;cases i with
    | zero=>simp at u;subst u;exact⟨x,Z,h1⟩
    | succ i=>simpa using k2 i z (by simpa using u)
theorem tU {α β γ:Type} {f:α->Option β} {g:β->Option γ}:∀{l:List α} {xs:List γ},(l.mapM fun a=>(f a).bind g)=some xs->∃ys,l.mapM f=some ys/\ys.mapM g=some xs
  | [],xs,h=>by simp at h;subst h;exact⟨[],Z,Z⟩
  | a::l,xs,h=>by
    simp only[List.mapM_cons,Option.bind_eq_bind,Option.bind_eq_some_iff,Option.pure_def,oJ_] at h;obtain⟨x,⟨b,h1,h2⟩,r,u,rfl⟩:=h;obtain⟨ys,z,k2⟩:=tU u;exact⟨b::ys,by simp[List.mapM_cons,h1,z],by simp[List.mapM_cons,h2,k2]⟩
theorem mapM_map {α β γ:Type} {f:α->β} {g:β->Option γ}:∀(l:List α),(l.map f).mapM g=l.mapM fun a=>g (f a)
  | []=>rfl
  | a::l=>by simp only[List.map_cons,List.mapM_cons,mapM_map l]
theorem chunks_flatten {α:Type} {m:Nat} (L:List α):∀(n:Nat),((List.range n).map fun k=>(L.drop (k*m)).take m).flatten=L.take (n*m)
  | 0=>by simp
  | n+1=>by
    rw[List.range_succ,List.map_append,List.flatten_append,chunks_flatten L n];simp only[List.map_cons,List.map_nil,List.flatten_cons,List.flatten_nil,List.append_nil];rw[Nat.succ_mul,List.take_add]
theorem vR {a:Addr} {n:Nat} {cs:List Value} (h:w.cells? 0 a n=some cs) (hn:1<=n):∃(c:Array Value) (e:TypeId) (fr:Nat×Nat),w.heap[a.block]?=some (Obj.cells c e fr)/\a.spot=none/\a.off+n<=c.size/\cs=(c.toList.drop a.off).take n:=by
  unfold World.cells? at h;rw[if_pos<|Nat.zero_le _] at h;obtain⟨E,k2⟩:=mL h;have E:cs.length=n:=by simpa using E
  have h0:∃(c:Array Value) (e:TypeId) (fr:Nat×Nat),w.heap[a.block]?=some (Obj.cells c e fr)/\a.spot=none:=by
    have u:0<cs.length:=by omega
    obtain⟨x,hx,hc⟩:=k2 0 cs[0] (gC u)
    have:x=0:=by
      rw[List.getElem?_range B] at hx;exact(Option.some.inj hx).symm
    subst this;have G:a.add 0=a:=by simp[Addr.add]
    rw[G] at hc;unfold World.cell? at hc;split at hc
    · rename_i c e fr A
      split at hc
      · cases hc
      · rename_i C
        exact⟨c,e,fr,A,by simpa using C⟩
    · cases hc
  obtain⟨c,e,fr,A,C⟩:=h0
  have z:∀i y,cs[i]?=some y->c[a.off+i]?=some y:=fun i y hy=>by
    obtain⟨x,hx,hc⟩:=k2 i y hy;have hi:i<n:=by rw[<-E];exact(gA.1 hy).1
    have:x=i:=by
      rw[List.getElem?_range hi] at hx;exact(Option.some.inj hx).symm
    subst this;rw[Addr.add_eq a x C] at hc;rwa[cell?_of_heap A] at hc
  have F:a.off+n<=c.size:=by
    have u:n-1<cs.length:=by omega
    have:=z (n-1) cs[n-1] (gC u);have:=(aS_.1 this).1;omega
  refine⟨c,e,fr,A,C,F,?_⟩;apply List.ext_getElem?;intro i;rw[List.getElem?_take,List.getElem?_drop,aT_ (xs:=c)]
  by_cases hi:i<n
  · rw[if_pos hi]
    have u:i<cs.length:=by omega
    rw[z i cs[i]<|gC u,gC u]
  · rw[if_neg hi,gN_ B]
theorem CG {P:Program}:∀{fs:List Field} {off fin:Nat},qw P fs off=some fin->∀f∈fs,f.offset+P.cellsOf f.type<=fin
  | [],off,fin,h,f,hf=>by cases hf
  | g::fs,off,fin,h,f,hf=>by
    simp only[qw] at h;split at h
    · rename_i ho
      rcases mQ_.1 hf with rfl | hf
      · have:=(nN (P:=P) (cs:=List.replicate fin ()) h (by simp)).2
        omega
      · exact CG h f hf
    · cases h
theorem IN (hw:∃(r:Nat) (c:Array Value) (e:TypeId) (fr:Nat×Nat),w.heap[r]?=some (Obj.cells c e fr)) {fuel:Nat} (ih:∀t cs d p,DataW.trod enc P w 0 (fun _=>true) true fuel t cs=some (d,p)->HF enc P w fuel t cs d) {t e:TypeId} {a:Addr} {len cap:Nat} {d:DataW H_} {p:List MemPlace} (hu:P.underlying t=some (.slice e))
    (h:(if 0<=a.block/\len<=cap/\cap<=maxLen then
        ((List.range len).mapM fun i=>(w.cells? 0 (a.add (i*P.cellsOf e))<|P.cellsOf e).bind (DataW.trod enc P w 0 (fun _=>true) true fuel e)).bind fun elems=>
          (if(fun _=>true) a.block=true then(List.range (cap-len)).mapM fun j=>(w.cells? 0 (a.add ((len+j)*P.cellsOf e))<|P.cellsOf e).bind (DataW.trod enc P w 0 (fun _=>true) true fuel e) else some []).map fun rest=>
            (DataW.slice (elems.map (·.1))<|rest.map (·.1),MemPlace.row a ((elems.length+rest.length)*P.cellsOf e)++(elems++rest).flatMap (·.2))
      else none)=some (d,p)) {S:dh} {U:D} (hi:Inv S U w) (hr:ld U):
    ∃(S':dh) (U':D) (vs:List V),Inv S' U' w/\ld U'/\CX S U S' U'/\dz P U' (fuel+1) t d vs/\dp S' vs [Value.slice (some a) len cap]:=by
  split at h
  · rename_i hc
    obtain⟨_,a5,a6⟩:=hc;obtain⟨elems,hE,h⟩:=Option.bind_eq_some_iff.1 h;obtain⟨rest,hR,h⟩:=oM_.1 h;rw[if_pos Z] at hR;have hd:d= .slice (elems.map (·.1)) (rest.map (·.1)):=by have:=congrArg Prod.fst h;simpa using this.symm
    subst hd;have z:elems.length=len:=by have:=(mL hE).1;simpa using this
    have aI:rest.length=cap-len:=by have:=(mL hR).1;simpa using this
    by_cases M:1<=P.cellsOf e
    · obtain⟨css,aY,hex⟩:=tU hE
      obtain⟨kcs,L⟩:=mL aY;have kcs:css.length=len:=by simpa using kcs
      have X:∀k,(a.add k).block=a.block/\(a.add k).off=a.off+k:=fun k=>by
        unfold Addr.add;split
        · rename_i h0;subst h0;exact⟨Z,Z⟩
        · exact⟨Z,Z⟩
      have E:a.add 0=a:=by simp[Addr.add]
      by_cases h0:len=0/\cap=0
      · obtain⟨rfl,rfl⟩:=h0
        obtain⟨r,c,e',fr,hh⟩:=hw;have F:iF S ⟨r,0,c.size⟩ (.row [] e' true) (.cells c e' fr):=⟨c,fr,Z,by simp,by simp,fun i v hv=>by simp at hv,fun h=>by cases h⟩;obtain⟨i1,r1,l1⟩:=hi.L4 hr hh F Z;refine⟨_,_,[.slice U.next 0 0 (.upto<|P.cellsOf e)],i1,r1,l1,?_,dp.cons ?_ dp.nil⟩
        · unfold dz
          rw[hu];dsimp only;intro _;have a0:elems= []:=eN_ z;subst a0;exact⟨U.next,_,[],e',Z,by simp,N.dA _ _ _,.inr Z,by simp,fun i x hx=>by simp at hx⟩
        · simp only[H]
          refine⟨_,dh.cZ _ _ _,.inr ?_⟩;simp
      · have aa:∃(c:Array Value) (e':TypeId) (fr:Nat×Nat),w.heap[a.block]?=some (Obj.cells c e' fr)/\a.spot=none/\a.off<=c.size:=by
          have go:∀cs:List Value,w.cells? 0 a (P.cellsOf e)=some cs->∃(c:Array Value) (e':TypeId) (fr:Nat×Nat),w.heap[a.block]?=some (Obj.cells c e' fr)/\a.spot=none/\a.off<=c.size:=fun cs hk=>by
            obtain⟨c,e',fr,h1,h2,h3,_⟩:=vR hk M;exact⟨c,e',fr,h1,h2,by omega⟩
          by_cases hl:len=0
          · subst hl
            obtain⟨dss,a1,_⟩:=tU hR;obtain⟨k1,k2⟩:=mL a1;have k1:dss.length=cap-0:=by simpa using k1
            have u:0<dss.length:=by omega
            obtain⟨x,G,hx⟩:=k2 0 dss[0] (gC u);have:x=0:=by rw[List.getElem?_range B] at G;exact(Option.some.inj G).symm
            subst this;rw[nA_,Nat.zero_mul,E] at hx;exact go _ hx
          · have u:0<css.length:=by omega
            obtain⟨x,G,hx⟩:=L 0 css[0] (gC u);have:x=0:=by rw[List.getElem?_range B] at G;exact(Option.some.inj G).symm
            subst this;rw[Nat.zero_mul,E] at hx;exact go _ hx
        obtain⟨c,e',fr,hh,K,ar⟩:=aa
        have Q:∀(i:Nat) (y:List Value),css[i]?=some y->a.off+(i+1)*P.cellsOf e<=c.size/\y=((c.toList.drop a.off).drop (i*P.cellsOf e)).take (P.cellsOf e):=fun i y hy=>by
          obtain⟨x,hx,a2⟩:=L i y hy;have C:i<len:=by rw[<-kcs];exact(gA.1 hy).1
          have:x=i:=by rw[List.getElem?_range C] at hx;exact(Option.some.inj hx).symm
          subst this;obtain⟨c2,e2,a7,h1,h2,h3,h4⟩:=vR a2 M;obtain⟨q1,q3⟩:=X (x*P.cellsOf e);rw[q1,hh] at h1;cases h1;rw[q3] at h3 h4;exact⟨by rw[Nat.succ_mul];omega,by rw[h4,List.drop_drop]⟩
        have a3:a.off+len*P.cellsOf e<=c.size:=by
          by_cases hl:len=0
          · subst hl;omega
          · have u:len-1<css.length:=by omega
            have:=(Q (len-1) css[len-1]<|gC u).1;rwa[show len-1+1=len by omega] at this
        have ac:∀(i:Nat) (y:List Value),css[i]?=some y->y.length=P.cellsOf e:=fun i y hy=>by
          obtain⟨k1,k2⟩:=Q i y hy;rw[k2,lT_,lD_,lD_,Array.length_toList];rw[Nat.succ_mul] at k1;omega
        have R:css=(List.range len).map fun k=>((c.toList.drop a.off).drop (k*P.cellsOf e)).take (P.cellsOf e):=by
          apply List.ext_getElem?;intro i;rw[gM_]
          by_cases C:i<len
          · rw[List.getElem?_range C]
            have u:i<css.length:=by omega
            rw[gC u];exact congrArg some (Q i css[i]<|gC u).2
          · rw[gN_ B,gN_ (by simp;omega)];rfl
        obtain⟨S1,U1,vss,i1,r1,l1,n1,n2,W⟩:=qQ ih (css.map fun cs=>(e,cs)) elems (by rw[mapM_map];exact hex) S U hi hr;have n1:vss.length=css.length:=by simpa using n1
        have hV:dp S1 vss.flatten css.flatten:=dp.flatten n1 fun i vs cs hv am=>by
          have u:i<elems.length:=by rw[z,<-kcs];exact(gA.1 am).1
          exact(W i (e,cs) elems[i] vs (by rw[gM_,am];rfl) (gC u) hv).2
        have ap:∀vs∈vss,vs.length=P.cellsOf e:=fun vs hv=>by
          obtain⟨i,C,rfl⟩:=List.getElem_of_mem hv;have u:i<css.length:=by omega
          have A:i<elems.length:=by omega
          have:=(W i (e,css[i]) elems[i] vss[i] (by rw[gM_,gC u];rfl) (gC A)<|gC C).2.length;rw[<-this];exact ac i _<|gC u
        have aq:vss.flatten.length=len*P.cellsOf e:=by rw[pW ap,n1,kcs]
        rw[R,chunks_flatten] at hV
        have F:iF S1 ⟨a.block,a.off,c.size-a.off⟩ (.row vss.flatten e' true) (.cells c e' fr):=by
          refine⟨c,fr,Z,by show c.size=a.off+(c.size-a.off);omega,by rw[aq];show _<=c.size-a.off;omega,fun i v hv=>?_,fun h=>by cases h⟩;obtain⟨y,hy,a4⟩:=hV.get hv;rw[List.getElem?_take] at hy;split at hy
          · rw[List.getElem?_drop,aT_] at hy
            exact⟨y,hy,a4⟩
          · cases hy
        obtain⟨i2,r2,l2⟩:=i1.L4 r1 hh F Z;refine⟨_,_,[.slice U1.next 0 len (.known cap)],i2,r2,l1.trans l2,?_,dp.cons ?_ dp.nil⟩
        · unfold dz
          rw[hu];dsimp only;intro _;refine⟨U1.next,_,vss.flatten,e',by rw[lM_,z],by rw[lM_,z];omega,N.dA _ _ _,.inl (by rw[lM_,lM_,z,aI];congr 1;omega),by rw[aq,lM_,z],fun i x hx=>?_⟩;rw[gM_] at hx;cases hy:elems[i]? with
          | none=>rw[hy] at hx;cases hx
          | some y=>
            rw[hy] at hx;cases hx;have C:i<len:=by rw[<-z];exact(gA.1 hy).1
            have u:i<css.length:=by omega
            have A:i<vss.length:=by omega
            rw[nz ap<|gC A];exact dz.mono l2.get _ _ _ _ (W i (e,css[i]) y vss[i] (by rw[gM_,gC u];rfl) hy<|gC A).1
        · simp only[H]
          refine⟨_,dh.cZ _ _ _,?_⟩;obtain⟨ab,ao,as⟩:=a;dsimp only at K⊢;subst K;rfl
    · refine⟨S,U,[.any],hi,hr,CX.refl _ _,?_,dp.cons (by simp only[H]) dp.nil⟩
      unfold dz;rw[hu];exact fun h'=>absurd h' M
  · cases h
theorem lay (hw:∃(r:Nat) (c:Array Value) (e:TypeId) (fr:Nat×Nat),w.heap[r]?=some (Obj.cells c e fr)):∀(fuel:Nat) (t:TypeId) (cs:List Value) (d:DataW H_) (p:List MemPlace),DataW.trod enc P w 0 (fun _=>true) true fuel t cs=some (d,p)->HF enc P w fuel t cs d
  | 0,t,cs,d,p,h=>by simp[DataW.trod] at h
  | fuel+1,t,cs,d,p,h=>by
    intro S U hi R;have ih:=lay hw fuel
    have other:(∀vs:List V,dz P U (fuel+1) t d vs)->∃(S':dh) (U':D) (vs:List V),Inv S' U' w/\ld U'/\CX S U S' U'/\dz P U' (fuel+1) t d vs/\dp S' vs cs:=fun K=>
      ⟨S,U,_,hi,R,CX.refl _ _,K _,NW cs⟩
    have one:∀{v:V} {x:Value},cs= [x]->(∀S:dh,H S v x)->dz P U (fuel+1) t d [v]->∃(S':dh) (U':D) (vs:List V),Inv S' U' w/\ld U'/\CX S U S' U'/\dz P U' (fuel+1) t d vs/\dp S' vs cs:=fun {v x} hc hv K=>by
      subst hc;exact⟨S,U,[v],hi,R,CX.refl _ _,K,dp.cons (hv S) dp.nil⟩
    cases hu:P.underlying t with
    | none=>exact other fun vs=>by unfold dz;rw[hu];trivial
    | some u=>
      unfold DataW.trod at h;rw[hu] at h;cases u with
      | bool=>
        split at h<;>first | (rename_i he;cases he;done) | skip
        all_goals first
          | (rename_i b he
             cases h;exact one (v:=.bool b) Z (fun S=>by simp only[H]) (by unfold dz;rw[hu]))
          | cases h
      | int k=>
        split at h<;>first | (rename_i he;cases he;done) | skip
        all_goals first
          | (rename_i k1 k2 n he
             cases he;split at h
             · rename_i hk
               obtain⟨aa,ab⟩:=hk;subst aa;cases h;exact one (v:=.int k2 n) Z (fun S=>by simp only[H]) (by unfold dz;rw[hu];exact⟨Z,ab,Z⟩)
             · cases h)
          | cases h
      | string=>
        split at h<;>first | (rename_i he;cases he;done) | skip
        all_goals first
          | (rename_i s he
             split at h
             · rename_i hk
               cases h;exact one (v:=.str<|s.data.toList.map UInt8.toNat) Z (fun S=>by simp only[H];exact⟨s,Z,Z⟩) (by unfold dz;rw[hu];exact⟨by simpa using hk,Z⟩)
             · cases h)
          | cases h
      | struct fs=>
        dsimp only at h;split at h
        · rename_i hlen
          obtain⟨xs,L,hx⟩:=oM_.1 h;have K:d= .agg (xs.map (·.1)):=by have:=congrArg Prod.fst hx;simpa using this.symm
          subst K
          by_cases F:qw P fs.toList 0=some (P.cellsOf t)
          · obtain⟨E,W,vss,i1,r1,l1,n1,G,hh⟩:=qQ ih (fs.toList.map fun f=>(f.type,(cs.drop f.offset).take<|P.cellsOf f.type)) xs (by rw[mapM_map];exact L) S U hi R
            have hflat:=(nN (cs:=cs) F B).1;have hle:=CG F;have n1:vss.length=fs.toList.length:=by simpa using n1
            have G:xs.length=fs.toList.length:=by simpa using G
            have C:∀(i:Nat) (f:Field) (vs:List V),fs.toList[i]?=some f->vss[i]?=some vs->∃x,xs[i]?=some x/\dz P W fuel f.type x.1 vs/\dp E vs ((cs.drop f.offset).take<|P.cellsOf f.type):=fun i f vs hf hv=>by
              have z:i<xs.length:=by rw[G];exact(gA.1 hf).1
              obtain⟨k1,k2⟩:=hh i (f.type,(cs.drop f.offset).take<|P.cellsOf f.type) xs[i] vs (by rw[gM_,hf];rfl) (gC z) hv;exact⟨xs[i],gC z,k1,k2⟩
            have M:∀(i:Nat) (f:Field) (vs:List V),fs.toList[i]?=some f->vss[i]?=some vs->vs.length=P.cellsOf f.type:=fun i f vs hf hv=>by
              obtain⟨x,_,_,k⟩:=C i f vs hf hv;have h1:=k.length;have h2:=hle f (gB_ hf);rw[lT_,lD_] at h1;omega
            have X:dp E vss.flatten cs:=by
              have:=dp.flatten (S:=E) (vss:=vss) (css:=fs.toList.map fun f=>(cs.drop f.offset).take (P.cellsOf f.type)) (by simpa using n1) (fun i vs c hv hc=>by
                rw[gM_] at hc;cases hf:fs.toList[i]? with
                | none=>rw[hf] at hc;cases hc
                | some f=>
                  rw[hf] at hc;cases hc;obtain⟨x,_,_,k⟩:=C i f vs hf hv;exact k)
              rw[hflat,List.drop_zero,Nat.sub_zero,<-hlen,List.take_length] at this;exact this
            refine⟨E,W,vss.flatten,i1,r1,l1,?_,X⟩;unfold dz;rw[hu];dsimp only;intro _;refine⟨by simpa using G,by rw[<-hlen];exact X.length.symm,fun i f x hf hx=>?_⟩;have Q:fs.toList[i]?=some f:=by rw[aT_];exact hf
            have z:i<vss.length:=by rw[n1];exact(gA.1 Q).1
            obtain⟨_,hp⟩:=uY F M n1 Q (gC z);obtain⟨y,hy,k,_⟩:=C i f vss[i] Q (gC z);rw[gM_,hy] at hx;cases hx;rw[Nat.sub_zero] at hp;rw[hp];exact k
          · exact other fun vs=>by unfold dz;rw[hu];exact fun h'=>absurd h' F
        · cases h
      | array m e=>
        dsimp only at h;split at h
        · rename_i hlen
          obtain⟨xs,L,hx⟩:=oM_.1 h;have K:d= .agg (xs.map (·.1)):=by have:=congrArg Prod.fst hx;simpa using this.symm
          subst K
          by_cases F:P.cellsOf t=m*P.cellsOf e
          · obtain⟨E,W,vss,i1,r1,l1,n1,G,hh⟩:=qQ ih ((List.range m).map fun i=>(e,(cs.drop (i*P.cellsOf e)).take<|P.cellsOf e)) xs (by rw[mapM_map];exact L) S U hi R
            have n1:vss.length=m:=by simpa using n1
            have G:xs.length=m:=by simpa using G
            have C:∀(i:Nat) (vs:List V),vss[i]?=some vs->∃x,xs[i]?=some x/\dz P W fuel e x.1 vs/\dp E vs ((cs.drop (i*P.cellsOf e)).take<|P.cellsOf e):=fun i vs hv=>by
              have A:i<m:=by rw[<-n1];exact(gA.1 hv).1
              have z:i<xs.length:=by omega
              obtain⟨k1,k2⟩:=hh i (e,(cs.drop (i*P.cellsOf e)).take<|P.cellsOf e) xs[i] vs (by rw[gM_,List.getElem?_range A];rfl) (gC z) hv;exact⟨xs[i],gC z,k1,k2⟩
            have M:∀vs∈vss,vs.length=P.cellsOf e:=fun vs hv=>by
              obtain⟨i,A,rfl⟩:=List.getElem_of_mem hv;obtain⟨x,_,_,k⟩:=C i _ (gC A);have h1:=k.length;rw[lT_,lD_,hlen,F] at h1;have:(i+1)*P.cellsOf e<=m*P.cellsOf e:=nM_ _ B;rw[Nat.succ_mul] at this;omega
            have X:dp E vss.flatten cs:=by
              have:=dp.flatten (S:=E) (vss:=vss) (css:=(List.range m).map fun i=>(cs.drop (i*P.cellsOf e)).take (P.cellsOf e)) (by simpa using n1) (fun i vs c hv hc=>by
                obtain⟨x,_,_,k⟩:=C i vs hv;have A:i<m:=by rw[<-n1];exact(gA.1 hv).1
                rw[gM_,List.getElem?_range A] at hc;cases hc;exact k)
              rw[chunks_flatten,<-F,<-hlen,List.take_length] at this;exact this
            refine⟨E,W,vss.flatten,i1,r1,l1,?_,X⟩;unfold dz;rw[hu];dsimp only;intro _;refine⟨by simpa using G,by rw[<-hlen];exact X.length.symm,fun i x hx=>?_⟩
            have A:i<vss.length:=by
              have:=(gA.1 hx).1;rw[lM_] at this;omega
            rw[nz M<|gC A];obtain⟨y,hy,k,_⟩:=C i vss[i] (gC A);rw[gM_,hy] at hx;cases hx;exact k
          · exact other fun vs=>by unfold dz;rw[hu];exact fun h'=>absurd h' F
        · cases h
      | slice e=>
        split at h<;>first | (rename_i he;cases he;done) | skip
        all_goals first
          | (rename_i he
             cases h;exact one (v:=.ax) Z (fun S=>by simp only[H]) (by unfold dz;rw[hu]))
          | (rename_i e' a len cap he
             cases he;exact IN hw ih hu h hi R)
          | cases h
      | _=>exact other fun vs=>by unfold dz;rw[hu];trivial
end
section
variable {P:Program} {G:Cx} {ev:Operand->Option V} {U:D}
def Ext (U U':D):Prop:=U.next<=U'.next/\∀(b:Nat) (o:cG),b<U.next->U.m.get b=some o->U'.m.get b=some o
theorem Ext.refl (U:D):Ext U U:=⟨nR_ _,fun _ _ _ h=>h⟩
theorem Ext.trans {U u U2:D} (h:Ext U u) (h':Ext u U2):Ext U U2:=⟨Nat.le_trans h.1 h'.1,fun b o hb z=>h'.2 b o (Nat.lt_of_lt_of_le hb h.1) (h.2 b o hb z)⟩
theorem yb (U:D) (o:cG):(U.alloc o).m.get U.next=some o:=N.dA _ _ _
theorem nA (U:D) (o:cG) {b:Nat} (h:b<U.next):(U.alloc o).m.get b=U.m.get b:=N.dv _ _ _ _ (Nat.ne_of_lt h)
theorem zS (U:D) (b:Nat) (o:cG):(U.setObj b o).m.get b=some o:=N.dA _ _ _
theorem nC (U:D) {b b':Nat} (o:cG) (h:b'≠b):(U.setObj b o).m.get b'=U.m.get b':=N.dv _ _ _ _ h
theorem Ext.alloc (U:D) (o:cG):Ext U (U.alloc o):=⟨Nat.le_succ _,fun b o' hb h=>by rw[nA U o hb];exact h⟩
theorem Ext.set {U u:D} (h:Ext U u) {b:Nat} (hb:U.next<=b) (o:cG):Ext U (u.setObj b o):=⟨h.1,fun c o' hc z=>by rw[nC u o<|Nat.ne_of_lt<|Nat.lt_of_lt_of_le hc hb];exact h.2 c o' hc z⟩
theorem an {x:Operand} {v:V} (h:ev x=some v):dW P G ev U (.move x)= .val v U:=by
 show(match ev x with | some v=>HR.val v U | none=>_)=_;rw[h]
theorem aj {x:Operand} {v:V} (h:ev x=some v):dW P G ev U (.assign x)= .val v U:=by
 show(match ev x with | some v=>HR.val v U | none=>_)=_;rw[h]
theorem bn {op:Op} {v:V} (hk:kindOf P op= .pure) (h:di P ev op=some v):dW P G ev U op= .val v U:=by
 unfold dW;rw[hk];dsimp only;rw[h]
theorem AN {op:Op} {v:V} (hk:kindOf P op= .read) (h:gW P ev U op=some v):dW P G ev U op= .val v U:=by
 unfold dW;rw[hk];dsimp only;rw[h]
theorem tz {op:Op} {ob:cG} {mk:Mk} (hk:kindOf P op= .alloc) (h:gi P ev op=some (ob,mk)):dW P G ev U op= .val (mk.of U.next) (U.alloc ob):=by
 unfold dW;rw[hk];dsimp only;rw[h]
theorem kZ {op:Op} {r:HR} (hk:kindOf P op= .jW) (h:gz P G.ov ev U op=r):dW P G ev U op=r:=by
 unfold dW;rw[hk];exact h
theorem ay {t:TypeId} {x:Operand} {b:Pos} {off:Nat} {cells:List V} {e:Nat} {ro:Bool} {v:V} (hx:ev x=some (.ptr b off)) (hb:U.m.get b=some (.row cells e ro)) (u:dU P t=some none) (hv:nth cells off=some v):dW P G ev U (.load t x)= .val v U:=by
 refine AN Z ?_;simp only[gW,hx,hb,u,hv]
theorem aP {t:TypeId} {x:Operand} {b:Pos} {off n:Nat} {cells:List V} {e:Nat} {ro:Bool} {vs:List V} (hx:ev x=some (.ptr b off)) (hb:U.m.get b=some (.row cells e ro)) (z:dU P t=some (some n)) (hl:off+n<=cells.length) (hv:(cells.drop off).take n=vs):dW P G ev U (.load t x)= .val (.agg vs) U:=by
 refine AN Z ?_;have u:Nat.ble (off+n) (cX cells)=true:=by rw[nE_,bK];exact hl
 simp only[gW,hx,hb,z,u,cond_true,du,dO,hv]
theorem av {s:TypeId} {x:Operand} {i:Nat} {b:Pos} {off k:Nat} (hx:ev x=some (.ptr b off)) (hk:nV P s i=some k):dW P G ev U (.fieldAddr s x i)= .val (.ptr b (off+k)) U:=by
 refine bn Z ?_;unfold nV at hk;simp only[di,hx];cases u:structOf P s with
 | none=>rw[u] at hk;cases hk
 | some fs=>
  rw[u] at hk;dsimp only at hk⊢;cases hf:fs[i]? with
  | none=>rw[hf] at hk;cases hk
  | some f=>
   rw[hf] at hk;dsimp only at hk⊢;rw[p4] at hk;cases hj:P.info? f.type with
   | none=>rw[hj] at hk;cases hk
   | some j=>
    rw[hj] at hk;dsimp only at hk⊢;rw[bA] at hk⊢;split at hk
    ·cases hk
    rename_i h0;cases hk;rw[if_neg h0]
theorem LR {t e:TypeId} {j:TypeInfo} {x i:Operand} {b:Pos} {off len n:Nat} {c:pH} {k:IntKind} (u:P.underlying t=some (.slice e)) (hj:P.info? e=some j) (hx:ev x=some (.slice b off len c)) (hi:ev i=some (.int k (.ofNat n))) (hn:n<len):dW P G ev U (.indexAddr t x i)= .val (.ptr b (off+n*j.size)) U:=by
 refine bn Z ?_;have:Nat.ble (Nat.succ n) len=true:=by rw[nE_];exact hn
 simp only[di,u,hx,hi,hj,this,cond_true]
theorem rQ {c:Call} {t e:TypeId} {x:Operand} {b:Pos} {off len:Nat} {cp:pH} (hc:c.callee= .builtin .len) (u:c.argTypes[0]?=some t) (z:c.args.toList= [x]) (hu:P.underlying t=some (.slice e)) (hx:ev x=some (.slice b off len cp)):dW P G ev U (.call c)= .val (.int .i64 (.ofNat len)) U:=by
 refine bn (by simp[kindOf,hc,isMap,u,hu]) ?_;simp only[di,hc,u,z,hx,wR,hu,Option.map_some]
theorem az {o:BinOp} {t r:TypeId} {x y:Operand} {a b v:V} (hx:ev x=some a) (hy:ev y=some b) (h:vh P (yT x || yT y) o t a b=some v):dW P G ev U (.binOp o t x y r)= .val v U:=by
 refine bn Z ?_;simp only[di,hx,hy,h]
theorem aD {c a b:Operand} {q:Bool} {v:V} (hc:ev c=some (.bool q)) (h:(if q then ev a else ev b)=some v):dW P G ev U (.pick c a b)= .val v U:=by
 refine bn Z ?_;cases q with
 | true=>simp only[di,hc];exact h
 | false=>simp only[di,hc];exact h
theorem cV {t:TypeId} {x:Operand} {q:Bool} (hx:ev x=some (.bool q)):dW P G ev U (.unOp .not t x)= .val (.bool (!q)) U:=by
 refine bn Z ?_;simp only[di,hx];cases q<;>rfl
theorem cz {e:TypeId} {x:Operand} {v:V} {cs:List V} (hx:ev x=some v) (hc:cS v=some cs):dW P G ev U (.box e x)= .val (.ptr U.next 0) (U.alloc (.row cs e false)):=by
 exact tz (op:=.box e x) (mk:=.ptr) (ob:=.row cs e false) Z (by simp only[gi,hx,Option.bind_some,hc])
theorem cP {e:TypeId} {cs:List V} (u:(fB P e).bind cS=some cs) (z:ta P e=false):dW P G ev U (.alloc e)= .val (.ptr U.next 0) (U.alloc (.row cs e false)):=by
 exact tz (op:=.alloc e) (mk:=.ptr) (ob:=.row cs e false) Z (by simp only[gi,u,z,cond_false])
theorem LS {t:TypeId} {x y:Operand} {b:Pos} {off:Nat} {v:V} {cs cells:List V} {e:Nat} {j:TypeInfo} (hx:ev x=some (.ptr b off)) (hy:ev y=some v) (hc:cS v=some cs) (hb:U.m.get b=some (.row cells e false)) (hj:P.info? t=some j) (hl:cs.length=j.size) (hle:off+j.size<=cells.length) (u:cD cs=true):
  dW P G ev U (.store t x y)= .skip (U.setObj b (.row (dG cs cells off) e false)):=by
 refine kZ Z ?_
 have h1:(Nat.beq (cX cs) j.size && Nat.ble (off+j.size) (cX cells) && cD cs)=true:=by
  rw[bA_,bA_,Nat.beq_eq,nE_,bK,bK];exact⟨⟨hl,hle⟩,u⟩
 simp only[gz,hx,hy,xI,hc,hb,hj,h1,cond_true]
theorem aR {c:Call} {f:Operand} {g:Nat} {fi ca args:List V} (hc:c.callee= .value f) (hf:ev f=some (.func g fi ca)) (u:tN ev c.args.toList=some args) (z:zV P g=true):dW P G ev U (.call c)= .enter g (fi++(args++ca)) U:=by
 refine kZ (by simp[kindOf,hc]) ?_;simp only[gz,hc,hf,u,yA,z,cond_true,dV]
end
end Go.Ev
namespace Go.Ev
theorem FX {α:Type} (n:Nat) (t:kD α) (hn:n<16):(xM n).run t ((kh n).run t)=t:=by
 rcases GX hn with rfl | rfl | rfl | rfl | rfl | rfl | rfl | rfl | rfl | rfl | rfl | rfl | rfl | rfl | rfl | rfl<;>rfl
theorem Jl {α:Type} (t:jN α) (k:Nat) (hk:k<256):pF t k (jV t k)=t:=by
 unfold pF jV;rw[FX (Nat.mod k 16) _<|Nat.mod_lt _ (by decide)];exact FX (Nat.div k 16) _ (by show k/16<16;omega)
theorem N.Lo {α:Type} {t:N α} {k:Nat} {o:Option α} (h:t.get k=o) (hk:k<256):t.put o k=t:=by
 subst h;rw[N.pY _ hk];cases t with
 | mk s m l=>rw[N.s7 _ _ _ _ hk];exact congrArg (fun s=>N.mk s m l)<|Jl s k hk
def Jn:N V->List (Nat×V)->N V
 | t,[]=>t
 | t,(k,v)::l=>Jn (t.put (some v) k) l
def Ml (t:N V):List (Nat×V)->Prop
 | []=>True
 | (k,v)::l=>t.get k=some v/\Ml t l
theorem Ml.Jn {t:N V}:∀{l:List (Nat×V)},Ml t l->(l.all fun x=>Nat.blt x.1 256)=true->Jn t l=t
 | [],_,_=>rfl
 | (k,v)::l,h,hl=>by
  rw[List.all_cons,bA_] at hl;have hk:k<256:=by have:=hl.1;exact Nat.le_of_ble_eq_true this
  show Go.Ev.Jn (t.put (some v) k) l=t;rw[N.Lo h.1 hk];exact h.2.Jn hl.2
section
variable [Env] {P:Program} {G:Cx} {ev:Operand->Option V} {U:D}
theorem aT {id:Nat} {Q:Ex->N V->D->Prop} {t:N V} (h:Q .normal t U):iL id Q (.exit id) t U:=by
 show(if id=id then _ else _);rw[if_pos Z];exact h
theorem sD {id j:Nat} {Q:Ex->N V->D->Prop} {t:N V} (hj:Nat.beq j id=false) (h:Q (.exit j) t U):iL id Q (.exit j) t U:=by
 show(if j=id then _ else _);rw[if_neg (fun e=>by rw[e,Nat.beq_refl] at hj;cases hj)];exact h
theorem aZ {n i:Nat} {b:Code} {Q:Ex->N V->D->Prop} {t:N V} (h:Q (.exit i) t U):cN P G n b Q (.exit i) t U:=h
theorem aw {n:Nat} {b:Code} {Q:Ex->N V->D->Prop} {t:N V} (h:Q .ret t U):cN P G n b Q .ret t U:=h
theorem eo {t e:TypeId} {m:Nat} {x i:Operand} {b:Pos} {off len n:Nat} {c:pH} {k:IntKind} (u:P.underlying t=some (.slice e)) (hj:(P.info? e).map (·.size)=some m) (hx:ev x=some (.slice b off len c)) (hi:ev i=some (.int k (.ofNat n))) (hn:n<len):dW P G ev U (.indexAddr t x i)= .val (.ptr b (off+n*m)) U:=by
 cases hq:P.info? e with
 | none=>rw[hq] at hj;cases hj
 | some j=>
  rw[hq] at hj;cases hj;exact LR u hq hx hi hn
theorem gR {t:TypeId} {m:Nat} {x y:Operand} {b:Pos} {off:Nat} {v:V} {cs cells:List V} {e:Nat} (hx:ev x=some (.ptr b off)) (hy:ev y=some v) (hc:cS v=some cs) (hb:U.m.get b=some (.row cells e false)) (hj:(P.info? t).map (·.size)=some m) (hl:cs.length=m) (hle:off+m<=cells.length) (u:cD cs=true):
  dW P G ev U (.store t x y)= .skip (U.setObj b (.row (dG cs cells off) e false)):=by
 cases hq:P.info? t with
 | none=>rw[hq] at hj;cases hj
 | some j=>
  rw[hq] at hj;cases hj;exact LS hx hy hc hb hq hl hle u
end
end Go.Ev
namespace Go.Ev
variable [Env]
abbrev KP:=Nat->cG->Prop
def KP.le (K K':KP):Prop:=∀b o,K b o->K' b o
theorem KP.le_refl (K:KP):KP.le K K:=fun _ _ h=>h
theorem KP.le_trans {K K' K'':KP} (h:KP.le K K') (h':KP.le K' K''):KP.le K K'':=fun b o hb=>h' b o (h b o hb)
def KP.add (K:KP) (b:Nat) (o:cG):KP:=fun b' o'=>K b' o'∨(b'=b/\o'=o)
theorem KP.se (K:KP) (b:Nat) (o:cG):KP.le K (K.add b o):=fun _ _ h=>.inl h
abbrev Own:=List (Nat×cG)
structure J (U:D) (K:KP) (L:Own):Prop where
 kept:∀b o,K b o->b<U.next/\U.m.get b=some o/\∀e∈L,e.1≠b
 own:∀e∈L,e.1<U.next/\U.m.get e.1=some e.2
 ne:L.Pairwise fun a b=>a.1≠b.1
section
variable {U:D} {K:KP} {L:Own}
theorem J.fq (h:J U K L) {b:Nat} {o:cG} (hk:K b o):U.m.get b=some o:=(h.kept b o hk).2.1
theorem J.get (h:J U K L) (k:Nat) {b:Nat} {o:cG} (hk:L[k]?=some (b,o)):U.m.get b=some o:=(h.own _<|gB_ hk).2
theorem J.alloc (h:J U K L) (o:cG):J (U.alloc o) K ((U.next,o)::L) where
 kept b o' hb:=by
  obtain⟨h1,h2,u⟩:=h.kept b o' hb;refine⟨Nat.lt_succ_of_lt h1,by rw[nA U o h1];exact h2,fun e he=>?_⟩;rcases mQ_.1 he with rfl | he
  ·exact fun e=>by rw[<-e] at h1;exact Nat.lt_irrefl _ h1
  exact u e he
 own e he:=by
  rcases mQ_.1 he with rfl | he
  ·exact⟨Nat.lt_succ_self _,yb _ _⟩
  obtain⟨h1,h2⟩:=h.own e he;exact⟨Nat.lt_succ_of_lt h1,by rw[nA U o h1];exact h2⟩
 ne:=List.pairwise_cons.2 ⟨fun e he=>fun z=>by have:=(h.own e he).1;rw[<-z] at this;exact Nat.lt_irrefl _ this,h.ne⟩
theorem J.pop {e:Nat×cG} (h:J U K (e::L)):J U K L where
 kept b o hb:=let ⟨h1,h2,u⟩:=h.kept b o hb;⟨h1,h2,fun e he=>u e (mC_ _ he)⟩
 own e he:=h.own e (mC_ _ he)
 ne:=(List.pairwise_cons.1 h.ne).2
theorem J.aQ:∀{M:Own},J U K (M++L)->J U K L
 | [],h=>h
 | _::_,h=>J.aQ h.pop
theorem J.perm {L':Own} (h:J U K L) (hp:L.Perm L'):J U K L' where
 kept b o hb:=let ⟨h1,h2,z⟩:=h.kept b o hb;⟨h1,h2,fun e he=>z e (hp.mem_iff.2 he)⟩
 own e he:=h.own e (hp.mem_iff.2 he)
 ne:=(hp.pairwise_iff (fun {a b} u=>fun e=>u e.symm)).1 h.ne
theorem J.iu {b:Nat} {o:cG} (h:J U K ((b,o)::L)):J U (K.add b o) L where
 kept b' o' hb:=by
  rcases hb with hb | ⟨rfl,rfl⟩
  ·exact h.pop.kept b' o' hb
  exact⟨(h.own _<|mS_ ..).1,(h.own _<|mS_ ..).2,fun e he u=>(List.pairwise_cons.1 h.ne).1 e he u.symm⟩
 own:=h.pop.own
 ne:=h.pop.ne
theorem J.pf {b:Nat} {o:cG} (h:J U K ((b,o)::L)) (o':cG):J (U.setObj b o') K ((b,o')::L) where
 kept b' o'' hb:=by
  obtain⟨h1,h2,u⟩:=h.kept b' o'' hb;refine⟨h1,by rw[nC U o' (fun e=>u _ (mS_ ..) e.symm)];exact h2,fun e he=>?_⟩;rcases mQ_.1 he with rfl | he
  ·exact u (b,o)<|mS_ ..
  exact u e<|mC_ _ he
 own e he:=by
  rcases mQ_.1 he with rfl | he
  ·exact⟨(h.own _<|mS_ ..).1,zS _ _ _⟩
  obtain⟨h1,h2⟩:=h.own e (mC_ _ he);exact⟨h1,by rw[nC U o' (fun z=>(List.pairwise_cons.1 h.ne).1 e he z.symm)];exact h2⟩
 ne:=List.pairwise_cons.2 ⟨(List.pairwise_cons.1 h.ne).1,(List.pairwise_cons.1 h.ne).2⟩
theorem J.Lr {b:Nat} {o:cG} {x:Nat×cG} (h:J U K (x::(b,o)::L)) (o':cG):J (U.setObj b o') K (x::(b,o')::L):=
 ((h.perm<|List.Perm.swap ..).pf o').perm (List.Perm.swap ..)
theorem Jk {α:Type} (x y z:α) (L:List α):(x::y::z::L).Perm (z::x::y::L):=
 (List.Perm.cons x<|List.Perm.swap z y L).trans (List.Perm.swap z x (y::L))
theorem J.PI {b:Nat} {o:cG} {x y:Nat×cG} (h:J U K (x::y::(b,o)::L)) (o':cG):J (U.setObj b o') K (x::y::(b,o')::L):=
 ((h.perm<|Jk ..).pf o').perm (Jk ..).symm
theorem L5 {α:Type} (x y z u:α) (L:List α):(x::y::z::u::L).Perm (u::x::y::z::L):=
 (List.Perm.cons x<|Jk y z u L).trans (List.Perm.swap u x (y::z::L))
theorem J.PJ {b:Nat} {o:cG} {x y z:Nat×cG} (h:J U K (x::y::z::(b,o)::L)) (o':cG):J (U.setObj b o') K (x::y::z::(b,o')::L):=
 ((h.perm<|L5 ..).pf o').perm (L5 ..).symm
theorem J.xq {b:Nat} {o:cG} (h:J U K ((b,o)::L)) (o':cG):J ((U.drop b).alloc o') K ((U.next,o')::L):=by
 refine J.alloc (U:=U.drop b) ⟨fun b' o'' hb=>?_,fun e he=>?_,h.pop.ne⟩ o'
 ·obtain⟨h1,h2,u⟩:=h.kept b' o'' hb;exact⟨h1,by rw[show(U.drop b).m.get b'=U.m.get b' from N.dv _ _ _ _ (fun e=>u _ (mS_ ..) e.symm)];exact h2,fun e he=>u e (mC_ _ he)⟩
 obtain⟨h1,h2⟩:=h.own e (mC_ _ he);exact⟨h1,by rw[show(U.drop b).m.get e.1=U.m.get e.1 from N.dv _ _ _ _ (fun z=>(List.pairwise_cons.1 h.ne).1 e he z.symm)];exact h2⟩
theorem J.named (h:J U K L):∃L',J U K L'/\L=L':=⟨L,h,Z⟩
theorem J.ext {U':D} (h:J U K L) (he:Ext U U'):J U' K L where
 kept b o hb:=let ⟨h1,h2,u⟩:=h.kept b o hb;⟨Nat.lt_of_lt_of_le h1 he.1,he.2 b o h1 h2,u⟩
 own e hm:=let ⟨h1,h2⟩:=h.own e hm;⟨Nat.lt_of_lt_of_le h1 he.1,he.2 _ _ h1 h2⟩
 ne:=h.ne
end
def ib (K:KP) (p:V) (vs:List V):Prop:=
 ∃(b off:Nat) (cells:List V) (e:Nat) (ro:Bool),p= .ptr b off/\K b (.row cells e ro)/\off+vs.length<=cells.length/\(cells.drop off).take vs.length=vs
theorem ib.mono {K K':KP} (hk:KP.le K K') {p:V} {vs:List V} (h:ib K p vs):ib K' p vs:=
 let ⟨b,off,cells,e,ro,h1,h2,u,h4⟩:=h;⟨b,off,cells,e,ro,h1,hk _ _ h2,u,h4⟩
def LU (m len:Nat) (c:pH):Prop:=c= .upto m∨∃n,c= .known n/\len<=n
def bR {α:Type} (K:KP) (m:Nat) (R:α->List V->Prop) (l:List α) (v:V):Prop:=
 (l= []/\v= .ax)∨∃(b off:Nat) (c:pH) (cells:List V) (e:Nat) (ro:Bool),v= .slice b off l.length c/\LU m l.length c/\K b (.row cells e ro)/\off+l.length*m<=cells.length/\l.length<=9223372036854775807/\
  ∀(i:Nat) (x:α),l[i]?=some x->R x ((cells.drop (off+i*m)).take m)
theorem bR.mono {α:Type} {K K':KP} {m:Nat} {R R':α->List V->Prop} {l:List α} {v:V} (h:bR K m R l v) (hk:KP.le K K') (u:∀x vs,R x vs->R' x vs):bR K' m R' l v:=by
 rcases h with h | ⟨b,off,c,cells,e,ro,h1,h2,z,h4,h5⟩
 ·exact .inl h
 exact .inr ⟨b,off,c,cells,e,ro,h1,h2,hk _ _ z,h4,h5.1,fun i x hx=>u x _ (h5.2 i x hx)⟩
theorem bR.bG {α:Type} {K:KP} {m:Nat} {R:α->List V->Prop} {l:List α} {v:V} (h:bR K m R l v):l.length<=9223372036854775807:=by
 rcases h with ⟨rfl,_⟩ | ⟨b,off,c,cells,e,ro,h1,h2,h3,h4,h5,_⟩
 ·exact Nat.zero_le _
 exact h5
theorem bR.leaf {α:Type} {K:KP} {m:Nat} {R:α->List V->Prop} {l:List α} {v:V} (h:bR K m R l v):cS v=some [v]/\iB v=true:=by
 rcases h with ⟨_,rfl⟩ | ⟨b,off,c,cells,e,ro,rfl,_⟩<;>exact⟨rfl,rfl⟩
theorem bR.wR {α:Type} {K:KP} {m:Nat} {R:α->List V->Prop} {l:List α} {v:V} (h:bR K m R l v) {P:Program} {t e:TypeId} (hu:P.underlying t=some (.slice e)):Go.Ev.wR P t v=some l.length:=by
 rcases h with ⟨rfl,rfl⟩ | ⟨b,off,c,cells,e,ro,rfl,_⟩
 ·simp only[Go.Ev.wR,hu];rfl
 simp only[Go.Ev.wR,hu]
theorem bR.at {α:Type} {K:KP} {m:Nat} {R:α->List V->Prop} {l:List α} {v:V} (h:bR K m R l v) {i:Nat} {x:α} (hi:l[i]?=some x):
  ∃(b off:Nat) (c:pH) (vs:List V),v= .slice b off l.length c/\i<l.length/\ib K (.ptr b (off+i*m)) vs/\vs.length=m/\R x vs:=by
 have u:i<l.length:=(gA.1 hi).1;rcases h with ⟨rfl,_⟩ | ⟨b,off,c,cells,e,ro,rfl,h2,z,h4,h5⟩
 ·exact absurd u<|nZ_ _
 have hle:(i+1)*m<=l.length*m:=nM_ _ u;rw[Nat.succ_mul] at hle;have hn:((cells.drop (off+i*m)).take m).length=m:=by rw[lT_,lD_];omega
 refine⟨b,off,c,_,Z,u,⟨b,off+i*m,cells,e,ro,Z,z,by rw[hn];omega,by rw[hn]⟩,hn,h5.2 i x hi⟩
section
variable {P:Program} {G:Cx} {ev:Operand->Option V} {U:D} {K:KP} {L:Own}
theorem aW {α:Type} {m:Nat} {R:α->List V->Prop} {l:List α} {c:Call} {t e:TypeId} {x:Operand} {v:V} (z:bR K m R l v) (hc:c.callee= .builtin .len) (u:c.argTypes[0]?=some t) (A:c.args.toList= [x]) (hu:P.underlying t=some (.slice e)) (hx:ev x=some v):dW P G ev U (.call c)= .val (.int .i64 (.ofNat l.length)) U:=by
 refine bn (by simp[kindOf,hc,isMap,u,hu]) ?_;simp only[di,hc,u,A,hx,z.wR hu,Option.map_some]
theorem ij {c:Call} {t:TypeId} {x:Operand} {s:List Nat} (hc:c.callee= .builtin .len) (u:c.argTypes[0]?=some t) (z:c.args.toList= [x]) (hu:P.underlying t=some .string) (hx:ev x=some (.str s)):dW P G ev U (.call c)= .val (.int .i64 (.ofNat<|cX s)) U:=by
 refine bn (by simp[kindOf,hc,isMap,u,hu]) ?_;simp only[di,hc,u,z,hx,wR,hu,Option.map_some]
theorem aU {t:TypeId} {x:Operand} {p v:V} {vs:List V} (u:J U K L) (hp:ib K p vs) (hx:ev x=some p) (z:dU P t=some none) (hv:vs[0]?=some v):dW P G ev U (.load t x)= .val v U:=by
 obtain⟨b,off,cells,e,ro,rfl,h2,h3,h4⟩:=hp;refine ay hx (u.fq h2) z ?_;rw[eF];rw[<-h4,List.getElem?_take] at hv;split at hv
 ·simpa using hv
 cases hv
theorem J6 {t:TypeId} {x:Operand} {p:V} {vs:List V} {n:Nat} (u:J U K L) (hp:ib K p vs) (hx:ev x=some p) (z:dU P t=some (some n)) (hv:n<=vs.length):dW P G ev U (.load t x)= .val (.agg<|vs.take n) U:=by
 obtain⟨b,off,cells,e,ro,rfl,h2,h3,h4⟩:=hp;refine aP hx (u.fq h2) z B ?_;rw[<-h4,List.take_take,Nat.min_eq_left hv]
end
section
variable {P:Program} {G:Cx} {n:Nat} {t:N V} {U:D} {K:KP} {L:Own} {Q:Ex->N V->D->Prop} {ops:Array Oper} {o:Oper} {l:List Oper}
theorem aM {c:Bool} {t':Bool->N V} (hw:bM ops t o=some true) (hv:dW P G (bE G t) U o.op= .val (.bool c) U) (hp:∀b,dI t n o.dst (.bool b)=some (t' b))
  (h1:c=true->bP P G ops n l (t' true) U Q) (h0:c=false->bP P G ops n l (t' false) U Q):bP P G ops n (o::l) t U Q:=by
 refine O hw hv (hp c) ?_;cases c with
 | true=>exact h1 Z
 | false=>exact h0 Z
theorem bH (u:J U K L) {ob:cG} {t':Nat->N V} (hw:bM ops t o=some true) (hv:dW P G (bE G t) U o.op= .val (.ptr U.next 0) (U.alloc ob)) (hp:∀b,dI t n o.dst (.ptr b 0)=some (t' b))
  (h:∀(U':D) (b:Nat),J U' K ((b,ob)::L)->bP P G ops n l (t' b) U' Q):bP P G ops n (o::l) t U Q:=
 O hw hv (hp _) (h _ _<|u.alloc ob)
theorem gT (u:J U K L) {ob:cG} {k c:Nat} {t':Nat->N V} (hw:bM ops t o=some true) (hv:dW P G (bE G t) U o.op= .val (.slice U.next 0 k (.known c)) (U.alloc ob)) (hp:∀b,dI t n o.dst (.slice b 0 k (.known c))=some (t' b))
  (h:∀(U':D) (b:Nat),J U' K ((b,ob)::L)->bP P G ops n l (t' b) U' Q):bP P G ops n (o::l) t U Q:=
 O hw hv (hp _) (h _ _<|u.alloc ob)
theorem bO {b:Nat} {ob ob':cG} {t':N V} (u:J U K ((b,ob)::L)) (hw:bM ops t o=some true) (hv:dW P G (bE G t) U o.op= .skip (U.setObj b ob')) (hp:dI t n o.dst unit=some t')
  (h:∀U',J U' K ((b,ob')::L)->bP P G ops n l t' U' Q):bP P G ops n (o::l) t U Q:=iO hw hv hp (h _<|u.pf ob')
theorem eh {b:Nat} {ob ob':cG} {x:Nat×cG} {t':N V} (u:J U K (x::(b,ob)::L)) (hw:bM ops t o=some true) (hv:dW P G (bE G t) U o.op= .skip (U.setObj b ob')) (hp:dI t n o.dst unit=some t')
  (h:∀U',J U' K (x::(b,ob')::L)->bP P G ops n l t' U' Q):bP P G ops n (o::l) t U Q:=iO hw hv hp (h _<|u.Lr ob')
theorem z7 {b:Nat} {ob ob':cG} {x y:Nat×cG} {t':N V} (u:J U K (x::y::(b,ob)::L)) (hw:bM ops t o=some true) (hv:dW P G (bE G t) U o.op= .skip (U.setObj b ob')) (hp:dI t n o.dst unit=some t')
  (h:∀U',J U' K (x::y::(b,ob')::L)->bP P G ops n l t' U' Q):bP P G ops n (o::l) t U Q:=iO hw hv hp (h _<|u.PI ob')
theorem jz {b:Nat} {ob ob':cG} {x y z:Nat×cG} {t':N V} (u:J U K (x::y::z::(b,ob)::L)) (hw:bM ops t o=some true) (hv:dW P G (bE G t) U o.op= .skip (U.setObj b ob')) (hp:dI t n o.dst unit=some t')
  (h:∀U',J U' K (x::y::z::(b,ob')::L)->bP P G ops n l t' U' Q):bP P G ops n (o::l) t U Q:=iO hw hv hp (h _<|u.PJ ob')
theorem bZ {α:Type} {m:Nat} {R:α->List V->Prop} {la:List α} {v:V} {i:Nat} {x:α} {ty e:TypeId} {xo io:Operand} {k:IntKind} {t':V->N V} (A:bR K m R la v) (hi:la[i]?=some x) (hw:bM ops t o=some true) (C:o.op= .indexAddr ty xo io)
  (E:P.underlying ty=some (.slice e)) (hj:(P.info? e).map (·.size)=some m) (hx:bE G t xo=some v) (u:bE G t io=some (.int k (.ofNat i))) (hp:∀p,dI t n o.dst p=some (t' p))
  (h:∀p vs,ib K p vs->vs.length=m->R x vs->bP P G ops n l (t' p) U Q):bP P G ops n (o::l) t U Q:=by
 obtain⟨b,off,c,vs,rfl,z,h1,h2,F⟩:=A.at hi;refine O hw ?_ (hp _)<|h _ vs h1 h2 F;rw[C];exact eo E hj hx u z
theorem cq {p:V} {vs:List V} {s:TypeId} {xo:Operand} {i k:Nat} {t':V->N V} (u:ib K p vs) (hw:bM ops t o=some true) (z:o.op= .fieldAddr s xo i) (hx:bE G t xo=some p) (hk:nV P s i=some k) (hl:k<=vs.length) (hp:∀p,dI t n o.dst p=some (t' p))
  (h:∀p',ib K p' (vs.drop k)->bP P G ops n l (t' p') U Q):bP P G ops n (o::l) t U Q:=by
 obtain⟨b,off,cells,e,ro,rfl,h2,h3,h4⟩:=u;refine O hw ?_ (hp _)<|h _ ⟨b,off+k,cells,e,ro,Z,h2,by rw[lD_];omega,?_⟩
 ·rw[z];exact av hx hk
 rw[lD_]
 conv=>rhs;rw[<-h4]
 rw[List.drop_take,List.drop_drop]
theorem cH {f:Nat} {args:List V} {t':V->N V} {R:V->D->Prop} (hw:bM ops t o=some true) (hv:dW P G (bE G t) U o.op= .enter f args U) (hp:∀v,dI t n o.dst v=some (t' v))
  (hc:bk P G f args U R) (h:∀v U',R v U'->bP P G ops n l (t' v) U' Q):bP P G ops n (o::l) t U Q:=
 DD hw hv (hc.mono fun v U' u=>⟨_,hp v,h v U' u⟩)
theorem aE {x:Operand} {a b:Code} {c:Bool} (hc:bE G t x=some (.bool c)) (h1:c=true->Ev P G a n t U Q) (h0:c=false->Ev P G b n t U Q):Ev P G (.cond x a b) n t U Q:=by
 refine zP hc ?_;cases c with
 | true=>exact h1 Z
 | false=>exact h0 Z
end
theorem aC:cD []=true:=rfl
theorem ah {v:V} {vs:List V} (h:iB v=true) (u:cD vs=true):cD (v::vs)=true:=by
 show(bif iB v then cD vs else false)=true;rw[h,u];rfl
section
variable {P:Program} {G:Cx} {ev:Operand->Option V} {U:D} {K:KP} {L:Own}
theorem aL {t:TypeId} {m:Nat} {x y:Operand} {b:Pos} {off:Nat} {v:V} {cs cells cells':List V} {e:Nat} (hx:ev x=some (.ptr b off)) (hy:ev y=some v) (hc:cS v=some cs) (hb:U.m.get b=some (.row cells e false)) (hj:(P.info? t).map (·.size)=some m) (hl:cs.length=m) (hle:off+m<=cells.length) (u:cD cs=true) (z:dG cs cells off=cells'):
  dW P G ev U (.store t x y)= .skip (U.setObj b (.row cells' e false)):=by
 subst z;exact gR hx hy hc hb hj hl hle u
theorem bQ {t:TypeId} {x:Operand} {p:V} {vs:List V} {n:Nat} (u:J U K L) (hp:ib K p vs) (hx:ev x=some p) (z:dU P t=some (some n)) (hv:vs.length=n):dW P G ev U (.load t x)= .val (.agg vs) U:=by
 have:=J6 (G:=G) u hp hx z (Nat.le_of_eq hv.symm);rwa[<-hv,List.take_length] at this
def placesOf (P:Program) (t:TypeId):Option (List (Nat×Nat)):=(structOf P t).bind fun fs=>cW (fun f:Field=>(P.info? f.type).map fun j=>(f.offset,j.size)) fs.toList
theorem bJ {place:Nat->Option (Nat×Nat)} {cells:List V}:kx place ev [] cells=some cells:=rfl
theorem bD {place:Nat->Option (Nat×Nat)} {i:Nat} {x:Operand} {l:List (Nat×Operand)} {cells:List V} {off size:Nat} {v:V} {vs:List V} {r:Option (List V)} (hp:place i=some (off,size)) (hx:ev x=some v) (hc:cS v=some vs) (hl:(Nat.beq (cX vs) size && Nat.ble (off+size) (cX cells))=true) (h:kx place ev l (dG vs cells off)=r):kx place ev ((i,x)::l) cells=r:=by
 have hb:(ev x).bind cS=some vs:=by rw[hx];exact hc
 show(match place i,(ev x).bind cS with
   | some (off,size),some vs=>bif Nat.beq (cX vs) size && Nat.ble (off+size) (cX cells) then kx place ev l (dG vs cells off) else none
   | _,_=>none)=_
 rw[hp,hb];dsimp only;rw[hl];exact h
theorem bF {t:TypeId} {parts:Array (Nat×Operand)} {places:List (Nat×Nat)} {zero cs:List V} (hp:placesOf P t=some places) (z:(fB P t).bind cS=some zero) (hu:dU P t=some (some zero.length)) (hf:kx (nth places) ev parts.toList zero=some cs) (u:(structOf P t).isSome=true):dW P G ev U (.build t parts)= .val (.agg cs) U:=by
 refine bn Z ?_;unfold placesOf structOf at hp;unfold structOf at u;rw[ow] at hp u;simp only[di,z];split at u
 ·rename_i fs hu;rw[hu] at hp⊢;simp only[Option.bind_some] at hp;simp only[hp,hf,Option.map_some]
 cases u
theorem ek {s d:TypeId} {x:Operand} {j k:IntKind} {n:Int} (hk:kindOf P (.convert s d x)= .pure) (u:P.underlying s=some (.int j)) (z:P.underlying d=some (.int k)) (hx:ev x=some (.int j n)):dW P G ev U (.convert s d x)= .val (.int k<|wr k n) U:=by
 refine bn hk ?_;simp only[di,u,z,hx]
end
section
variable {P:Program} {G:Cx} {n:Nat} {t:N V} {U:D} {K:KP} {L:Own} {Q:Ex->N V->D->Prop} {ops:Array Oper} {o:Oper} {l:List Oper}
theorem Fz {f:Nat} {args:List V} {c:Bool} {t':V->N V} (hw:bM ops t o=some true) (hv:dW P G (bE G t) U o.op= .enter f args U) (hp:∀v,dI t n o.dst v=some (t' v))
  (hc:bk P G f args U fun v U'=>v= .bool c/\J U' K L) (h1:c=true->∀U',J U' K L->bP P G ops n l (t' (.bool true)) U' Q) (h0:c=false->∀U',J U' K L->bP P G ops n l (t' (.bool false)) U' Q):bP P G ops n (o::l) t U Q:=
 cH hw hv hp hc fun v U' ⟨hv,aq⟩=>by
  subst hv;cases c with
  | true=>exact h1 Z U' aq
  | false=>exact h0 Z U' aq
theorem bf {f:Nat} {args:List V} {u:V} {t':V->N V} (hw:bM ops t o=some true) (hv:dW P G (bE G t) U o.op= .enter f args U) (hp:∀v,dI t n o.dst v=some (t' v))
  (hc:bk P G f args U fun v U'=>v=u/\J U' K L) (h:∀U',J U' K L->bP P G ops n l (t' u) U' Q):bP P G ops n (o::l) t U Q:=
 cH hw hv hp hc fun v U' ⟨hv,aq⟩=>by subst hv;exact h U' aq
theorem aH {x:Operand} {a b:Code} (hc:bE G t x=some (.bool true)) (h:Ev P G a n t U Q):Ev P G (.cond x a b) n t U Q:=zP hc h
theorem aK {x:Operand} {a b:Code} (hc:bE G t x=some (.bool false)) (h:Ev P G b n t U Q):Ev P G (.cond x a b) n t U Q:=zP hc h
theorem ad {b:Code} (h:Ev P G b n t U Q):cN P G n b Q .normal t U:=h
theorem aJ {id:Nat} (h:Q .normal t U):iL id Q .normal t U:=h
theorem aF {id:Nat} (h:Q .ret t U):iL id Q .ret t U:=h
def wV (I_:Nat->N V->D->Prop) (j:Nat) (Q:Ex->N V->D->Prop) (e:Ex) (t:N V) (U:D):Prop:=
 match e with
 | .normal=>∃i,i<j/\I_ i t U
 | e=>Q e t U
theorem aO {I_:Nat->N V->D->Prop} {j:Nat} (h:∃i,i<j/\I_ i t U):wV I_ j Q .normal t U:=h
theorem bc {I_:Nat->N V->D->Prop} {j i:Nat} (h:Q (.exit i) t U):wV I_ j Q (.exit i) t U:=h
theorem bz {I_:Nat->N V->D->Prop} {j:Nat} (h:Q .ret t U):wV I_ j Q .ret t U:=h
theorem Ip {b:Code} (I_:Nat->N V->D->Prop) (j:Nat) (u:I_ j t U) (step:∀j t U,I_ j t U->Ev P G b n t U (wV I_ j Q)):Ev P G (.loop b) n t U Q:=
 KH I_ (fun j t U h=>(step j t U h).mono fun e t' U' hq=>by cases e<;>exact hq) j t U u
end
def KY:Nat:=70
def DY (f:Nat):Bool:=Nat.beq f 9 || Nat.beq f 18
structure Plain (G:Cx):Prop where
 h1:∀f a s,G.HB f a s=none
 h2:∀f a,DY f=false->G.HD f a=none
 h3:G.mem= []
 h4:∀f a s,G.stop f a s=none
 h5:∀f,Nat.beq f KY=false->G.fk f=false
theorem Iq {P:Program} {G:Cx} (u:Plain G) {f:Nat} {fn:Func} {c:Code} {args:List V} {U:D} {R:V->D->Prop} {t:N V} (hf:P.funcs[f]?=some fn) (hb:fn.body=some c) (z:ry fn.ntmps args=some t)
  (h:Ev P G c fn.ntmps t U fun e t' U'=>(e= .normal∨e= .ret)/\∃v,fm P fn t' U'=some v/\R v U') (hk:Nat.beq f KY=false:=by rfl) (hl:DY f=false:=by rfl):bk P G f args U R:=
 KG (u.h1 _ _ _) (u.h2 _ _ hl) (u.h4 _ _ _) (u.h5 _ hk) hf hb z h
def BB (P:Program) (fn:Func) (R:V->D->Prop) (e:Ex) (t:N V) (U:D):Prop:=(e= .normal∨e= .ret)/\∃v,fm P fn t U=some v/\R v U
theorem bh {P:Program} {G:Cx} (u:Plain G) {f:Nat} {fn:Func} {c:Code} {args:List V} {U:D} {R:V->D->Prop} {t:N V} (hf:P.funcs[f]?=some fn) (hb:fn.body=some c) (z:ry fn.ntmps args=some t)
  (h:Ev P G c fn.ntmps t U (BB P fn R)) (hk:Nat.beq f KY=false:=by rfl) (hl:DY f=false:=by rfl):bk P G f args U R:=Iq u hf hb z h hk hl
theorem Cp {P:Program} {fn:Func} {k:Nat} {t:N V} {U:D} {v:V} (u:fn.results.toList= [.tmp k]) (h:t.get k=some v):fm P fn t U=some v:=by
 unfold fm;rw[u]
 have:cW (g9 P t U) [.tmp k]=some [v]:=by
  have h':g9 P t U (.tmp k)=some v:=h;unfold cW;simp only[h']
 rw[this]
theorem Cq {P:Program} {fn:Func} {j k:Nat} {t:N V} {U:D} {u v:V} (C:fn.results.toList= [.tmp j,.tmp k]) (h1:t.get j=some u) (h2:t.get k=some v):fm P fn t U=some (.tuple [u,v]):=by
 unfold fm;rw[C]
 have:cW (g9 P t U) [.tmp j,.tmp k]=some [u,v]:=by
  have z:g9 P t U (.tmp j)=some u:=h1;have A:g9 P t U (.tmp k)=some v:=h2;unfold cW;simp only[z,A]
 rw[this]
theorem aA {P:Program} {fn:Func} {R:V->D->Prop} {t:N V} {U:D} {k:Nat} {v:V} (u:fn.results.toList= [.tmp k]) (h:t.get k=some v) (z:R v U):BB P fn R .ret t U:=⟨.inr Z,v,Cp u h,z⟩
theorem bV {P:Program} {fn:Func} {R:V->D->Prop} {t:N V} {U:D} {j k:Nat} {u v:V} (z:fn.results.toList= [.tmp j,.tmp k]) (h1:t.get j=some u) (h2:t.get k=some v) (A:R (.tuple [u,v]) U):BB P fn R .ret t U:=⟨.inr Z,_,Cq z h1 h2,A⟩
end Go.Ev
namespace Go.Ev
theorem kD.eta {α:Type} (t:kD α):t=⟨(kh 0).run t,(kh 1).run t,(kh 2).run t,(kh 3).run t,(kh 4).run t,(kh 5).run t,(kh 6).run t,(kh 7).run t,(kh 8).run t,(kh 9).run t,(kh 10).run t,(kh 11).run t,(kh 12).run t,(kh 13).run t,(kh 14).run t,(kh 15).run t⟩:=by cases t;rfl
theorem kD.same {α:Type} {t t':kD α} (h:∀n,n<16->(kh n).run t=(kh n).run t'):t=t':=by
 rw[kD.eta t,h 0 (by decide),h 1 (by decide),h 2 (by decide),h 3 (by decide),h 4 (by decide),h 5 (by decide),h 6 (by decide),h 7 (by decide),h 8 (by decide),h 9 (by decide),h 10 (by decide),h 11 (by decide),h 12 (by decide),h 13 (by decide),h 14 (by decide),h 15 (by decide),<-kD.eta t']
theorem jN.same {α:Type} {t t':jN α} (h:∀k,k<256->jV t k=jV t' k):t=t':=by
 refine kD.same fun n hn=>kD.same fun m hm=>?_
 have:=h (n*16+m) B;unfold jV at this;have e1:Nat.div (n*16+m) 16=n:=by show(n*16+m)/16=n;omega
 have u:Nat.mod (n*16+m) 16=m:=by show(n*16+m)%16=m;omega
 rw[e1,u] at this;exact this
variable [Env]
def bd (W:List Nat) (t t':N V):Prop:=t'.m=t.m/\t'.l=t.l/\∀k,k<256->W.elem k=false->jV t'.s k=jV t.s k
theorem bd.refl (W:List Nat) (t:N V):bd W t t:=⟨Z,Z,fun _ _ _=>Z⟩
theorem bd.put {W:List Nat} {t t':N V} {w:Nat} {o:Option V} (hw:(W.elem w && Nat.blt w 256)=true) (h:bd W t t'):bd W t (t'.put o w):=by
 obtain⟨h1,h2,u⟩:=h;rw[bA_,sE] at hw;obtain⟨s,m,l⟩:=t';rw[N.s7 _ _ _ _ hw.2];refine⟨h1,h2,fun k hk hn=>?_⟩;show jV (pF s w o) k=_;rw[mF _ _ _ _ hw.2 hk,if_neg (fun e=>by subst e;rw[hw.1] at hn;cases hn)];exact u k hk hn
theorem bd.dP {W:List Nat} {t t':N V} {w:Nat} (hw:Nat.blt w 256=true) (h:bd (w::W) t t'):∃o,bd W (t.put o w) t':=by
 rw[sE] at hw;obtain⟨h1,h2,u⟩:=h;refine⟨t'.get w,?_⟩;obtain⟨s,m,l⟩:=t;rw[N.s7 _ _ _ _ hw,N.pY _ hw];refine⟨h1,h2,fun k hk hn=>?_⟩;show _=jV (pF s w _) k;rw[mF _ _ _ _ hw hk];split
 ·rename_i e;rw[e]
 rename_i e;refine u k hk ?_;rw[List.elem_cons,hn];have:(k == w)=false:=by simpa using e
 rw[this]
theorem bd.lD {W:List Nat} {t t':N V} {a b c d:Nat} (hw:(Nat.blt a 256 && (Nat.blt b 256 && (Nat.blt c 256 && Nat.blt d 256)))=true) (h:bd (a::b::c::d::W) t t'):∃u z A C,bd W ((((t.put u a).put z b).put A c).put C d) t':=by
 simp only[bA_] at hw;obtain⟨h1,h2,E,h4⟩:=hw;obtain⟨u,h⟩:=h.dP h1;obtain⟨z,h⟩:=h.dP h2;obtain⟨A,h⟩:=h.dP E;obtain⟨C,h⟩:=h.dP h4;exact⟨u,z,A,C,h⟩
theorem bd.cr {W:List Nat} {t t':N V} {a b c d e f g i:Nat} (hw:(Nat.blt a 256 && (Nat.blt b 256 && (Nat.blt c 256 && Nat.blt d 256)))=true) (u:(Nat.blt e 256 && (Nat.blt f 256 && (Nat.blt g 256 && Nat.blt i 256)))=true) (h:bd (a::b::c::d::e::f::g::i::W) t t'):
  ∃z A C E F K L M,bd W ((((((((t.put z a).put A b).put C c).put E d).put F e).put K f).put L g).put M i) t':=by
 obtain⟨z,A,C,E,h⟩:=h.lD hw;obtain⟨F,K,L,M,h⟩:=h.lD u;exact⟨z,A,C,E,F,K,L,M,h⟩
theorem bd.nil {t t':N V} (h:bd [] t t'):t'=t:=by
 obtain⟨s,m,l⟩:=t;obtain⟨s',m',l'⟩:=t';obtain⟨h1,h2,u⟩:=h;have:s'=s:=jN.same fun k hk=>u k hk Z
 cases h1;cases h2;cases this;rfl
section
variable {P:Program} {G:Cx} {n:Nat} {t:N V} {U:D} {Q:Ex->N V->D->Prop}
theorem bp {b:Code} (W:List Nat) (I_:Nat->N V->D->Prop) (j:Nat) (u:I_ j t U) (step:∀j t' U,bd W t t'->I_ j t' U->Ev P G b n t' U (wV (fun j t'' U=>bd W t t''/\I_ j t'' U) j Q)):Ev P G (.loop b) n t U Q:=
 Ip (fun j t'' U=>bd W t t''/\I_ j t'' U) j ⟨bd.refl _ _,u⟩ fun j t' U h=>step j t' U h.1 h.2
end
theorem lX {a b:Nat}:bU (.ofNat a) (.ofNat b)=decide (a<b):=by
 show Nat.ble (Nat.succ a) b=_;rw[Bool.eq_iff_iff,nE_,decide_eq_true_iff];rfl
theorem fv {a b:Nat}:I (.ofNat a) (.ofNat b)=decide (a=b):=by
 show Nat.beq a b=_;rw[Bool.eq_iff_iff,Nat.beq_eq,decide_eq_true_iff]
theorem bg {i:Nat} (h:i<9223372036854775807):wr .i64 (Int.add (.ofNat i) (.ofNat 1))= .ofNat (i+1):=by
 show(bif Nat.ble (i+1) 9223372036854775807 then _ else _)=_;rw[show Nat.ble (i+1) 9223372036854775807=true from by rw[nE_];exact h];rfl
end Go.Ev
namespace Go.Ev
variable [Env]
section
variable {P:Program} {G:Cx} {n:Nat} {t:N V} {U:D} {K:KP} {L:Own} {Q:Ex->N V->D->Prop} {ops:Array Oper} {o:Oper} {i:Nat} {rc:List Nat} {l:List (Nat×List Nat)}
theorem eM {v:V} {t':N V} {U':D} (hi:ops[i]?=some o) (hw:bM ops t o=some true) (hv:dW P G (bE G t) U o.op= .val v U') (hp:dI t n o.dst v=some t') (h:dn P G ops t' U' rc=true/\cE P G ops n l t' U' Q):cE P G ops n ((i,rc)::l) t U Q:=by
 obtain⟨u,K,e,z,A,h1,h2⟩:=h;refine⟨K,e,z,A,fun k hk=>?_,h2⟩
 show(match ops[i]? with
  | some o=>ju P G (ew P G k) false ops n o t U (fun t' U'=>bif dn P G ops t' U' rc then ke P G (ew P G k) ops n [] l t' U' else .err 86)
  | none=>.err 87)=_
 rw[hi];unfold ju;dsimp only;rw[hw];dsimp only;rw[hv];dsimp only[lT];rw[hp];dsimp only;rw[u];exact h1 k hk
theorem oN {t':N V} {U':D} (hi:ops[i]?=some o) (hw:bM ops t o=some true) (hv:dW P G (bE G t) U o.op= .skip U') (hp:dI t n o.dst unit=some t') (h:dn P G ops t' U' rc=true/\cE P G ops n l t' U' Q):cE P G ops n ((i,rc)::l) t U Q:=by
 obtain⟨u,K,e,z,A,h1,h2⟩:=h;refine⟨K,e,z,A,fun k hk=>?_,h2⟩
 show(match ops[i]? with
  | some o=>ju P G (ew P G k) false ops n o t U (fun t' U'=>bif dn P G ops t' U' rc then ke P G (ew P G k) ops n [] l t' U' else .err 86)
  | none=>.err 87)=_
 rw[hi];unfold ju;dsimp only;rw[hw];dsimp only;rw[hv];dsimp only[lT];rw[hp];dsimp only;rw[u];exact h1 k hk
theorem aV:dn P G ops t U []=true:=rfl
theorem bB {j:Nat} {l:List Nat} (h:jh P G ops t U j=true) (hl:dn P G ops t U l=true):dn P G ops t U (j::l)=true:=by
 show(bif jh P G ops t U j then dn P G ops t U l else false)=true;rw[h];exact hl
theorem bN {k:Nat} {v:V} (hi:ops[i]?=some o) (hw:bM ops t o=some true) (z:o.dst=some k) (A:t.get k=some v) (hk:kindOf P o.op= .read) (h:dW P G (bE G t) U o.op= .val v U) (hb:dX v v=true):jh P G ops t U i=true:=by
 have C:gW P (bE G t) U o.op=some v:=by
  unfold dW at h;rw[hk] at h;dsimp only at h;split at h
  ·rename_i u hu;cases h;exact hu
  cases h
 unfold jh;rw[hi];dsimp only;rw[hw];dsimp only;rw[z];dsimp only;rw[show t.get (posOf k)=some v from A];dsimp only;rw[hk];dsimp only;rw[C];exact hb
theorem JJ (hi:ops[i]?=some o) (hw:bM ops t o=some false):jh P G ops t U i=true:=by
 unfold jh;rw[hi];dsimp only;rw[hw]
theorem iq {k b e:Nat} {cs:List V} (hi:ops[i]?=some o) (hw:bM ops t o=some true) (u:o.dst=some k) (z:t.get k=some (.ptr b 0)) (hk:kindOf P o.op= .alloc) (A:gi P (bE G t) o.op=some (.row cs e false,.ptr)) (hm:U.m.get b=some (.row cs e false)) (hb:dX.beqL cs cs=true):jh P G ops t U i=true:=by
 unfold jh;rw[hi];dsimp only;rw[hw];dsimp only;rw[u];dsimp only;rw[show t.get (posOf k)=some (.ptr b 0) from z];dsimp only;rw[hk];dsimp only;rw[A];show(match U.m.get b with | some (.row cs' e' false)=>Nat.beq e e' && dX.beqL cs cs' | _=>false)=true;rw[hm];show(Nat.beq e e && dX.beqL cs cs)=true;rw[hb,Nat.beq_refl];rfl
theorem fL (k:IntKind) (n:Int):dX.fD (.int k n) (.int k n)=true:=by
 show(r9 k k && I n n)=true;rw[dF];cases k<;>simp[r9]
theorem sB (s:List Nat):dX.fD (.str s) (.str s)=true:=by
 show gL s s=true;rw[mB];simp
theorem bR.fD {α:Type} {K:KP} {m:Nat} {R:α->List V->Prop} {l:List α} {v:V} (h:bR K m R l v):dX.fD v v=true:=by
 rcases h with ⟨_,rfl⟩ | ⟨b,off,c,cells,e,ro,rfl,hc,_⟩
 ·rfl
 show(dX.beqP b b && Nat.beq off off && Nat.beq l.length l.length && dX.beqC c c)=true;have hp:dX.beqP b b=true:=Nat.beq_refl b
 have u:dX.beqC c c=true:=by
  rcases hc with rfl | ⟨n,rfl,_⟩
  ·exact Nat.beq_refl m
  exact Nat.beq_refl n
 simp[hp,u]
theorem fx:dX.beqL [] []=true:=rfl
theorem bS {v:V} {vs:List V} (h:dX.fD v v=true) (u:dX.beqL vs vs=true):dX.beqL (v::vs) (v::vs)=true:=by
 show(bif dX.fD v v then dX.beqL vs vs else false)=true;rw[h];exact u
theorem gH {vs:List V} (h:dX.beqL vs vs=true):dX (.agg vs) (.agg vs)=true:=h
theorem dZ {c:Bool} {t':Bool->N V} (u:ops[i]?=some o) (hw:bM ops t o=some true) (hv:dW P G (bE G t) U o.op= .val (.bool c) U) (hp:∀b,dI t n o.dst (.bool b)=some (t' b))
  (h1:c=true->cE P G ops n l (t' true) U Q) (h0:c=false->cE P G ops n l (t' false) U Q):cE P G ops n ((i,[])::l) t U Q:=by
 refine al u hw hv (hp c) ?_;cases c with
 | true=>exact h1 Z
 | false=>exact h0 Z
theorem pB (z:J U K L) {ob:cG} {t':Nat->N V} (u:ops[i]?=some o) (hw:bM ops t o=some true) (hv:dW P G (bE G t) U o.op= .val (.ptr U.next 0) (U.alloc ob)) (hp:∀b,dI t n o.dst (.ptr b 0)=some (t' b))
  (h:∀(U':D) (b:Nat),J U' K ((b,ob)::L)->cE P G ops n l (t' b) U' Q):cE P G ops n ((i,[])::l) t U Q:=
 al u hw hv (hp _) (h _ _<|z.alloc ob)
theorem j1 (z:J U K L) {ob:cG} {k c:Nat} {t':Nat->N V} (u:ops[i]?=some o) (hw:bM ops t o=some true) (hv:dW P G (bE G t) U o.op= .val (.slice U.next 0 k (.known c)) (U.alloc ob)) (hp:∀b,dI t n o.dst (.slice b 0 k (.known c))=some (t' b))
  (h:∀(U':D) (b:Nat),J U' K ((b,ob)::L)->cE P G ops n l (t' b) U' Q):cE P G ops n ((i,[])::l) t U Q:=
 al u hw hv (hp _) (h _ _<|z.alloc ob)
theorem kb {b:Nat} {ob ob':cG} {t':N V} (z:J U K ((b,ob)::L)) (u:ops[i]?=some o) (hw:bM ops t o=some true) (hv:dW P G (bE G t) U o.op= .skip (U.setObj b ob')) (hp:dI t n o.dst unit=some t')
  (h:∀U',J U' K ((b,ob')::L)->(dn P G ops t' U' rc=true/\cE P G ops n l t' U' Q)):cE P G ops n ((i,rc)::l) t U Q:=oN u hw hv hp (h _<|z.pf ob')
theorem z9 {b:Nat} {ob ob':cG} {x:Nat×cG} {t':N V} (z:J U K (x::(b,ob)::L)) (u:ops[i]?=some o) (hw:bM ops t o=some true) (hv:dW P G (bE G t) U o.op= .skip (U.setObj b ob')) (hp:dI t n o.dst unit=some t')
  (h:∀U',J U' K (x::(b,ob')::L)->(dn P G ops t' U' rc=true/\cE P G ops n l t' U' Q)):cE P G ops n ((i,rc)::l) t U Q:=oN u hw hv hp (h _<|z.Lr ob')
theorem cO {α:Type} {m:Nat} {R:α->List V->Prop} {la:List α} {v:V} {ix:Nat} {x:α} {ty e:TypeId} {xo io:Operand} {k:IntKind} {t':V->N V} (C:bR K m R la v) (hi:la[ix]?=some x) (u:ops[i]?=some o) (hw:bM ops t o=some true) (E:o.op= .indexAddr ty xo io)
  (F:P.underlying ty=some (.slice e)) (hj:(P.info? e).map (·.size)=some m) (hx:bE G t xo=some v) (z:bE G t io=some (.int k (.ofNat ix))) (hp:∀p,dI t n o.dst p=some (t' p))
  (h:∀p vs,ib K p vs->vs.length=m->R x vs->cE P G ops n l (t' p) U Q):cE P G ops n ((i,[])::l) t U Q:=by
 obtain⟨b,off,c,vs,rfl,A,h1,h2,M⟩:=C.at hi;refine al u hw ?_ (hp _)<|h _ vs h1 h2 M;rw[E];exact eo F hj hx z A
theorem ka {p:V} {vs:List V} {s:TypeId} {xo:Operand} {fi k:Nat} {t':V->N V} (u:ib K p vs) (z:ops[i]?=some o) (hw:bM ops t o=some true) (A:o.op= .fieldAddr s xo fi) (hx:bE G t xo=some p) (hk:nV P s fi=some k) (hl:k<=vs.length) (hp:∀p,dI t n o.dst p=some (t' p))
  (h:∀p',ib K p' (vs.drop k)->cE P G ops n l (t' p') U Q):cE P G ops n ((i,[])::l) t U Q:=by
 obtain⟨b,off,cells,e,ro,rfl,h2,h3,h4⟩:=u;refine al z hw ?_ (hp _)<|h _ ⟨b,off+k,cells,e,ro,Z,h2,by rw[lD_];omega,?_⟩
 ·rw[A];exact av hx hk
 rw[lD_]
 conv=>rhs;rw[<-h4]
 rw[List.drop_take,List.drop_drop]
theorem jg {f:Nat} {args:List V} {t':V->N V} {R:V->D->Prop} (u:ops[i]?=some o) (hw:bM ops t o=some true) (hv:dW P G (bE G t) U o.op= .enter f args U) (hp:∀v,dI t n o.dst v=some (t' v))
  (hc:bk P G f args U R) (h:∀v U',R v U'->(dn P G ops (t' v) U' rc=true/\cE P G ops n l (t' v) U' Q)):cE P G ops n ((i,rc)::l) t U Q:=by
 refine BE u hw hv<|hc.mono fun v U' z=>?_;obtain⟨h1,h2⟩:=h v U' z;exact⟨_,hp v,h1,h2⟩
theorem cA {f:Nat} {args:List V} {u:V} {t':V->N V} (z:ops[i]?=some o) (hw:bM ops t o=some true) (hv:dW P G (bE G t) U o.op= .enter f args U) (hp:∀v,dI t n o.dst v=some (t' v))
  (hc:bk P G f args U fun v U'=>v=u/\J U' K L) (h:∀U',J U' K L->(dn P G ops (t' u) U' rc=true/\cE P G ops n l (t' u) U' Q)):cE P G ops n ((i,rc)::l) t U Q:=
 jg z hw hv hp hc fun v U' ⟨hv,aq⟩=>by subst hv;exact h U' aq
theorem aS {id:Nat} {l:List (Nat×List Nat)} (hf:sb P ops=true) (hl:jB P ops=l) (h:cE P G ops n l t U Q):Ev P G (.region id ops true) n t U Q:=by
 subst hl;exact wm hf h
end
end Go.Ev
namespace Go.Ev
variable [Env]
section
variable {P:Program} {G:Cx} {n:Nat} {t:N V} {U:D} {Q:Ex->N V->D->Prop} {ops:Array Oper} {o:Oper} {l:List Oper}
end
section
variable {P:Program} {G:Cx} {n:Nat} {U:D} {Q:Ex->N V->D->Prop} {ops:Array Oper}
def Ej (n:Nat) (t:N V) (d:Option Nat) (v:Option V):Option (N V):=match v with | some v=>dI t n d v | none=>none
def HL (P:Program) (k:Bool) (o:BinOp) (ty:TypeId) (a b:Option V):Option V:=match a with | some a=>(match b with | some b=>vh P k o ty a b | none=>none) | none=>none
def Cj (c a b:Option V):Option V:=match c with | some (.bool q)=>if q then a else b | _=>none
def Ng (P:Program) (G:Cx) (t:N V) (op:Op):Option V:=
 match op with
 | .move x=>bE G t x
 | .assign x=>bE G t x
 | .pick c a b=>Cj (bE G t c) (bE G t a) (bE G t b)
 | .binOp o ty x y _=>HL P (yT x || yT y) o ty (bE G t x) (bE G t y)
 | .extract x i=>di P (bE G t) (.extract x i)
 | .makeFunc x y z=>di P (bE G t) (.makeFunc x y z)
 | .unOp x y z=>di P (bE G t) (.unOp x y z)
 | .field x y z=>di P (bE G t) (.field x y z)
 | _=>none
theorem wZ {t:N V} {op:Op} {v:V} (h:Ng P G t op=some v):dW P G (bE G t) U op= .val v U:=by
 unfold Ng at h;split at h
 ·exact an h
 ·exact aj h
 ·unfold Cj at h;split at h
  ·rename_i q hc;exact aD hc h
  cases h
 ·unfold HL at h;split at h
  ·rename_i a u;split at h
   ·rename_i b hb;exact az u hb h
   cases h
  cases h
 ·exact bn Z h
 ·exact bn Z h
 ·exact bn Z h
 ·exact bn Z h
 cases h
def mW (P:Program) (G:Cx) (ops:Array Oper) (n:Nat) (t:N V) (o:Oper):Option (N V):=
 match bM ops t o with
 | some w=>bif w then Ej n t o.dst (Ng P G t o.op) else dI t n o.dst unit
 | none=>none
theorem td {t t':N V} {o:Oper} {l:List Oper} (h:mW P G ops n t o=some t') (u:bP P G ops n l t' U Q):bP P G ops n (o::l) t U Q:=by
 unfold mW at h;split at h
 ·rename_i w hw;cases w with
  | true=>
   simp only[cond_true] at h;unfold Ej at h;split at h
   ·rename_i v hv;exact O hw (wZ hv) h u
   cases h
  | false=>exact ae hw h u
 cases h
def quick (P:Program) (G:Cx) (ops:Array Oper) (n:Nat):Nat->List Oper->N V->Option (List Oper×N V)
 | 0,l,t=>some (l,t)
 | k+1,l,t=>match l with
  | o::l=>match mW P G ops n t o with
   | some t'=>quick P G ops n k l t'
   | none=>none
  | []=>none
theorem vQ (k:Nat) {l l':List Oper} {t t':N V} (h:quick P G ops n k l t=some (l',t')) (u:bP P G ops n l' t' U Q):bP P G ops n l t U Q:=by
 induction k generalizing l t with
 | zero=>simp only[quick,oJ_,Prod.mk.injEq] at h;obtain⟨rfl,rfl⟩:=h;exact u
 | succ k ih=>
  unfold quick at h;split at h
  ·split at h
   ·rename_i t1 h1;exact td h1<|ih h
   cases h
  cases h
def pb (P:Program) (G:Cx) (ops:Array Oper) (n:Nat):Nat->List (Nat×List Nat)->N V->Option (List (Nat×List Nat)×N V)
 | 0,l,t=>some (l,t)
 | k+1,l,t=>match l with
  | (i,[])::l=>match ops[i]? with
   | some o=>match mW P G ops n t o with
    | some t'=>pb P G ops n k l t'
    | none=>none
   | none=>none
  | _=>none
theorem tc {t t':N V} {i:Nat} {o:Oper} {l:List (Nat×List Nat)} (hi:ops[i]?=some o) (h:mW P G ops n t o=some t') (u:cE P G ops n l t' U Q):cE P G ops n ((i,[])::l) t U Q:=by
 unfold mW at h;split at h
 ·rename_i w hw;cases w with
  | true=>
   simp only[cond_true] at h;unfold Ej at h;split at h
   ·rename_i v hv;exact al hi hw (wZ hv) h u
   cases h
  | false=>exact au hi hw h u
 cases h
theorem wQ (k:Nat) {l l':List (Nat×List Nat)} {t t':N V} (h:pb P G ops n k l t=some (l',t')) (u:cE P G ops n l' t' U Q):cE P G ops n l t U Q:=by
 induction k generalizing l t with
 | zero=>simp only[pb,oJ_,Prod.mk.injEq] at h;obtain⟨rfl,rfl⟩:=h;exact u
 | succ k ih=>
  unfold pb at h;split at h
  ·split at h
   ·rename_i o z;split at h
    ·rename_i t1 h1;exact tc z h1<|ih h
    cases h
   cases h
  cases h
section
variable {ev:Operand->Option V} {K:KP} {L:Own}
theorem QA (k:Nat) {s:TypeId} {x:Operand} {i:Nat} {b:Pos} {off:Nat} (hx:ev x=some (.ptr b off)) (hk:nV P s i=some k:=by kernel_rfl):dW P G ev U (.fieldAddr s x i)= .val (.ptr b (off+k)) U:=av hx hk
theorem Qz {c:Call} {f:Operand} {g:Nat} {fi ca args:List V} (hc:c.callee= .value f) (hf:ev f=some (.func g fi ca)) (u:tN ev c.args.toList=some args) (z:zV P g=true:=by kernel_rfl):dW P G ev U (.call c)= .enter g (fi++(args++ca)) U:=aR hc hf u z
theorem QB {t:TypeId} {x:Operand} {b:Pos} {off:Nat} {cells:List V} {e:Nat} {ro:Bool} {v:V} (hx:ev x=some (.ptr b off)) (hb:U.m.get b=some (.row cells e ro)) (hv:nth cells off=some v) (u:dU P t=some none:=by kernel_rfl):dW P G ev U (.load t x)= .val v U:=ay hx hb u hv
theorem QC {t:TypeId} {x:Operand} {b:Pos} {off n:Nat} {cells:List V} {e:Nat} {ro:Bool} {vs:List V} (hx:ev x=some (.ptr b off)) (hb:U.m.get b=some (.row cells e ro)) (hv:(cells.drop off).take n=vs) (u:dU P t=some (some n):=by kernel_rfl) (hl:off+n<=cells.length:=by exact Nat.le_of_ble_eq_true Z):dW P G ev U (.load t x)= .val (.agg vs) U:=aP hx hb u hl hv
theorem QH {t:TypeId} {m:Nat} {x y:Operand} {b:Pos} {off:Nat} {v:V} {cs cells cells':List V} {e:Nat} (hx:ev x=some (.ptr b off)) (hy:ev y=some v) (hc:cS v=some cs) (hb:U.m.get b=some (.row cells e false)) (hl:cs.length=m) (u:cD cs=true) (z:dG cs cells off=cells')
  (hj:(P.info? t).map (·.size)=some m:=by kernel_rfl) (hle:off+m<=cells.length:=by exact Nat.le_of_ble_eq_true Z):dW P G ev U (.store t x y)= .skip (U.setObj b (.row cells' e false)):=aL hx hy hc hb hj hl hle u z
theorem Qy {t:TypeId} {parts:Array (Nat×Operand)} {places:List (Nat×Nat)} {zero cs:List V} (hf:kx (nth places) ev parts.toList zero=some cs) (hp:placesOf P t=some places:=by kernel_rfl) (u:(fB P t).bind cS=some zero:=by kernel_rfl) (hu:dU P t=some (some zero.length):=by kernel_rfl) (z:(structOf P t).isSome=true:=by kernel_rfl):dW P G ev U (.build t parts)= .val (.agg cs) U:=bF hp u hu hf z
theorem QE {e:TypeId} {cs:List V} (u:(fB P e).bind cS=some cs:=by kernel_rfl) (z:ta P e=false:=by kernel_rfl):dW P G ev U (.alloc e)= .val (.ptr U.next 0) (U.alloc (.row cs e false)):=cP u z
theorem QD {α:Type} {m:Nat} {R:α->List V->Prop} {l:List α} {c:Call} {t e:TypeId} {x:Operand} {v:V} (u:bR K m R l v) (hc:c.callee= .builtin .len) (z:c.argTypes[0]?=some t) (A:c.args.toList= [x]) (hx:ev x=some v) (hu:P.underlying t=some (.slice e):=by kernel_rfl):dW P G ev U (.call c)= .val (.int .i64 (.ofNat l.length)) U:=aW u hc z A hu hx
theorem QF {t:TypeId} {x:Operand} {p v:V} {vs:List V} (u:J U K L) (hp:ib K p vs) (hx:ev x=some p) (hv:vs[0]?=some v) (z:dU P t=some none:=by kernel_rfl):dW P G ev U (.load t x)= .val v U:=aU u hp hx z hv
theorem Qu {n:Nat} {t:N V} {o:Oper} {l:List Oper} {α:Type} {m:Nat} {R:α->List V->Prop} {la:List α} {v:V} {i:Nat} {x:α} {ty e:TypeId} {xo io:Operand} {k:IntKind} {t':V->N V} (z:bR K m R la v) (hi:la[i]?=some x) (hw:bM ops t o=some true) (A:o.op= .indexAddr ty xo io)
  (hx:bE G t xo=some v) (u:bE G t io=some (.int k (.ofNat i)))
  (h:∀p vs,ib K p vs->vs.length=m->R x vs->bP P G ops n l (t' p) U Q) (C:P.underlying ty=some (.slice e):=by kernel_rfl) (hj:(P.info? e).map (·.size)=some m:=by kernel_rfl) (hp:∀p,dI t n o.dst p=some (t' p):=by exact fun _=>Z):bP P G ops n (o::l) t U Q:=bZ z hi hw A C hj hx u hp h
theorem Qv {n i:Nat} {t:N V} {o:Oper} {l:List (Nat×List Nat)} {α:Type} {m:Nat} {R:α->List V->Prop} {la:List α} {v:V} {ix:Nat} {x:α} {ty e:TypeId} {xo io:Operand} {k:IntKind} {t':V->N V} (A:bR K m R la v) (hi:la[ix]?=some x) (u:ops[i]?=some o) (hw:bM ops t o=some true) (C:o.op= .indexAddr ty xo io)
  (hx:bE G t xo=some v) (z:bE G t io=some (.int k (.ofNat ix)))
  (h:∀p vs,ib K p vs->vs.length=m->R x vs->cE P G ops n l (t' p) U Q) (E:P.underlying ty=some (.slice e):=by kernel_rfl) (hj:(P.info? e).map (·.size)=some m:=by kernel_rfl) (hp:∀p,dI t n o.dst p=some (t' p):=by exact fun _=>Z):cE P G ops n ((i,[])::l) t U Q:=cO A hi u hw C E hj hx z hp h
end
theorem bd.Ph {W:List Nat} {t t':N V} {a b c d e f g i a' b' c' d' e' f' g' i':Nat} (hw:(Nat.blt a 256 && (Nat.blt b 256 && (Nat.blt c 256 && Nat.blt d 256)))=true) (u:(Nat.blt e 256 && (Nat.blt f 256 && (Nat.blt g 256 && Nat.blt i 256)))=true) (z:(Nat.blt a' 256 && (Nat.blt b' 256 && (Nat.blt c' 256 && Nat.blt d' 256)))=true) (A:(Nat.blt e' 256 && (Nat.blt f' 256 && (Nat.blt g' 256 && Nat.blt i' 256)))=true) (h:bd (a::b::c::d::e::f::g::i::a'::b'::c'::d'::e'::f'::g'::i'::W) t t'):
  ∃C E F M R X o7 o8 u1 u2 u3 u4 u5 u6 u7 u8,bd W ((((((((((((((((t.put C a).put E b).put F c).put M d).put R e).put X f).put o7 g).put o8 i).put u1 a').put u2 b').put u3 c').put u4 d').put u5 e').put u6 f').put u7 g').put u8 i') t':=by
 obtain⟨C,E,F,M,R,X,o7,o8,h⟩:=h.cr hw u;obtain⟨u1,u2,u3,u4,u5,u6,u7,u8,h⟩:=h.cr z A;exact⟨C,E,F,M,R,X,o7,o8,u1,u2,u3,u4,u5,u6,u7,u8,h⟩
theorem lb {a b:Nat} (h:Nat.ble a b=true):a<=b:=Nat.le_of_ble_eq_true h
theorem nT {b:Code} {t:N V} {Q:Ex->N V->D->Prop} (h:Ev P G b n t U Q):bP P G ops n [] t U (cN P G n b Q):=af (ad h)
theorem nS {id:Nat} {os:Array Oper} {b:Code} {t:N V} {Q:Ex->N V->D->Prop} (u:lE os.toList=false) (h:bP P G os n os.toList t U (cN P G n b Q)):bP P G ops n [] t U (cN P G n (.seq (.region id os false) b) Q):=af (ad<|ak<|ai u h)
theorem QG {K:KP} {L:Own} {ev:Operand->Option V} {t:TypeId} {x:Operand} {p:V} {vs:List V} {n:Nat} (u:J U K L) (hp:ib K p vs) (hx:ev x=some p) (hv:vs.length=n) (z:dU P t=some (some n):=by kernel_rfl):dW P G ev U (.load t x)= .val (.agg vs) U:=bQ u hp hx z hv
theorem kv {K:KP} {L:Own} {n:Nat} {t:N V} {o:Oper} {l:List Oper} {f:Nat} {args:List V} {u:V} {t':V->N V} (hw:bM ops t o=some true) (hv:dW P G (bE G t) U o.op= .enter f args U)
  (hc:bk P G f args U fun v U'=>v=u/\J U' K L) (h:∀U',J U' K L->bP P G ops n l (t' u) U' Q) (hp:∀v,dI t n o.dst v=some (t' v):=by exact fun _=>Z):bP P G ops n (o::l) t U Q:=bf hw hv hp hc h
theorem kp {K:KP} {L:Own} {n:Nat} {t:N V} {o:Oper} {l:List Oper} (u:J U K L) {ob:cG} {t':Nat->N V} (hw:bM ops t o=some true) (hv:dW P G (bE G t) U o.op= .val (.ptr U.next 0) (U.alloc ob))
  (h:∀(U':D) (b:Nat),J U' K ((b,ob)::L)->bP P G ops n l (t' b) U' Q) (hp:∀b,dI t n o.dst (.ptr b 0)=some (t' b):=by exact fun _=>Z):bP P G ops n (o::l) t U Q:=bH u hw hv hp h
abbrev T:V:=.int .i64 0
theorem oP {W:List Nat} {t t':N V} {w:Nat} {o:Option V} (hw:(W.elem w && Nat.blt w 256)=true) (h:bd W t t'):bd W t (t'.put o w):=h.put hw
theorem oR (W:List Nat) (t:N V):bd W t t:=.refl W t
theorem ct {α:Type} (a b:α):(bif true then a else b)=a:=rfl
theorem cf {α:Type} (a b:α):(bif false then a else b)=b:=rfl
theorem cI {a b:Int} (h:a=b):some (V.int .i64 a)=some (V.int .i64 b):=congrArg (fun z=>some (V.int .i64 z)) h
theorem cB {a b:Bool} (h:a=b):V.bool a=V.bool b:=congrArg V.bool h
theorem cJ {a b:Int} (h:a=b):V.int .i64 a=V.int .i64 b:=congrArg (V.int .i64) h
theorem J.g0 {K:KP} {L:Own} {b:Nat} {o:cG} (h:J U K ((b,o)::L)):U.m.get b=some o:=h.get 0 Z
theorem J.g1 {K:KP} {L:Own} {e:Nat×cG} {b:Nat} {o:cG} (h:J U K (e::(b,o)::L)):U.m.get b=some o:=h.get 1 Z
theorem ky {n:Nat} {t:N V} {o:Oper} {l:List Oper} {c:Bool} {t':Bool->N V} (hw:bM ops t o=some true) (hv:dW P G (bE G t) U o.op= .val (.bool c) U)
  (h1:c=true->bP P G ops n l (t' true) U Q) (h0:c=false->bP P G ops n l (t' false) U Q) (hp:∀b,dI t n o.dst (.bool b)=some (t' b):=by exact fun _=>Z):bP P G ops n (o::l) t U Q:=aM hw hv hp h1 h0
end
section
variable {P:Program} {G:Cx} {n:Nat} {t:N V} {U:D} {Q:Ex->N V->D->Prop}
def Pb (W:List Nat) (t:N V) (I_:N V->D->Prop) (e:Ex) (t':N V) (U':D):Prop:=e= .normal/\bd W t t'/\I_ t' U'
theorem jv {a b:Code} (W:List Nat) (I_:N V->D->Prop) (h1:Ev P G a n t U (Pb W t I_)) (h2:∀t' U',bd W t t'->I_ t' U'->Ev P G b n t' U' Q):Ev P G (.seq a b) n t U Q:=
 ak (h1.mono fun e t' U' h=>by obtain⟨rfl,u,h4⟩:=h;exact h2 t' U' u h4)
end
end Go.Ev
namespace Go.Ev
variable [Env]
set_option maxRecDepth 4000
section
variable {P:Program} {G:Cx} {n:Nat} {U:D} {Q:Ex->N V->D->Prop}
inductive Cf where
 | ops (os:Array Oper) (l:List Oper)
 | jB (os:Array Oper) (l:List (Nat×List Nat))
 | code (c:Code)
 | out (e:Ex)
inductive Fm where
 | seq (b:Code)
 | dE (id:Nat)
 | OF (I_:Nat->N V->D->Prop) (j:Nat)
def QS (P:Program) (G:Cx) (n:Nat) (Q:Ex->N V->D->Prop):List Fm->Ex->N V->D->Prop
 | []=>Q
 | .seq b::r=>cN P G n b (QS P G n Q r)
 | .dE id::r=>iL id (QS P G n Q r)
 | .OF I_ j::r=>wV I_ j (QS P G n Q r)
def At (P:Program) (G:Cx) (n:Nat) (U:D) (Q:Ex->N V->D->Prop) (c:Cf) (fs:List Fm) (t:N V):Prop:=
 match c with
 | .ops os l=>bP P G os n l t U (QS P G n Q fs)
 | .jB os l=>cE P G os n l t U (QS P G n Q fs)
 | .code c=>Ev P G c n t U (QS P G n Q fs)
 | .out e=>QS P G n Q fs e t U
def Eu (P:Program) (G:Cx) (n:Nat) (c:Code) (fs:List Fm) (t:N V):Option (Cf×List Fm×N V):=
 match c with
 | .seq a b=>some (.code a,.seq b::fs,t)
 | .region _ os false=>bif lE os.toList then none else some (.ops os os.toList,fs,t)
 | .cond x a b=>match bE G t x with
  | some (.bool true)=>some (.code a,fs,t)
  | some (.bool false)=>some (.code b,fs,t)
  | _=>none
 | .block id b=>some (.code b,.dE id::fs,t)
 | .skip=>some (.out .normal,fs,t)
 | .label _=>some (.out .normal,fs,t)
 | .exit id=>some (.out (.exit id),fs,t)
 | .ret=>some (.out .ret,fs,t)
 | _=>none
def Aw (P:Program) (G:Cx) (n:Nat) (c:Cf) (fs:List Fm) (t:N V):Option (Cf×List Fm×N V):=
 match c with
 | .ops _ []=>some (.out .normal,fs,t)
 | .ops os (o::l)=>match mW P G os n t o with
  | some t'=>some (.ops os l,fs,t')
  | none=>none
 | .jB _ []=>some (.out .normal,fs,t)
 | .jB os ((i,[])::l)=>match os[i]? with
  | some o=>match mW P G os n t o with
   | some t'=>some (.jB os l,fs,t')
   | none=>none
  | none=>none
 | .jB _ ((_,_::_)::_)=>none
 | .code c=>Eu P G n c fs t
 | .out .normal=>match fs with
  | .seq b::r=>some (.code b,r,t)
  | .dE _::r=>some (.out .normal,r,t)
  | _=>none
 | .out (.exit j)=>match fs with
  | .seq _::r=>some (.out (.exit j),r,t)
  | .dE id::r=>bif Nat.beq j id then some (.out .normal,r,t) else some (.out (.exit j),r,t)
  | .OF _ _::r=>some (.out (.exit j),r,t)
  | []=>none
 | .out .ret=>match fs with
  | .seq _::r=>some (.out .ret,r,t)
  | .dE _::r=>some (.out .ret,r,t)
  | .OF _ _::r=>some (.out .ret,r,t)
  | []=>none
 | .out _=>none
theorem Hn {c:Code} {c':Cf} {fs fs':List Fm} {t t':N V} (h:Eu P G n c fs t=some (c',fs',t')) (u:At P G n U Q c' fs' t'):Ev P G c n t U (QS P G n Q fs):=by
 unfold Eu at h;split at h
 ·cases h;exact ak u
 ·rename_i os;cases z:lE os.toList with
  | true=>rw[z] at h;cases h
  | false=>rw[z] at h;cases h;exact ai z u
 ·split at h
  ·rename_i hx;cases h;exact aH hx u
  ·rename_i hx;cases h;exact aK hx u
  cases h
 ·cases h;exact aN u
 ·cases h;exact aG u
 ·cases h;exact Io u
 ·cases h;exact bx u
 ·cases h;exact aB u
 cases h
theorem ze {c c':Cf} {fs fs':List Fm} {t t':N V} (h:Aw P G n c fs t=some (c',fs',t')) (u:At P G n U Q c' fs' t'):At P G n U Q c fs t:=by
 unfold Aw at h;split at h
 ·cases h;exact af u
 ·split at h
  ·rename_i z;cases h;exact td z u
  cases h
 ·cases h;exact ba u
 ·split at h
  ·rename_i A;split at h
   ·rename_i z;cases h;exact tc A z u
   cases h
  cases h
 ·cases h
 ·exact Hn h u
 ·split at h
  ·cases h;exact u
  ·cases h;exact u
  cases h
 ·rename_i j;split at h
  ·cases h;exact u
  ·rename_i id r;cases hj:Nat.beq j id with
   | true=>
    rw[hj] at h;cases h;have:=nB hj;subst this;exact aT u
   | false=>rw[hj] at h;cases h;exact sD hj u
  ·cases h;exact u
  cases h
 ·split at h
  ·cases h;exact u
  ·cases h;exact u
  ·cases h;exact u
  cases h
 cases h
def iv (P:Program) (G:Cx) (n:Nat):Nat->Cf->List Fm->N V->Option (Cf×List Fm×N V)
 | 0,c,fs,t=>some (c,fs,t)
 | k+1,c,fs,t=>match Aw P G n c fs t with
  | some (c',fs',t')=>iv P G n k c' fs' t'
  | none=>none
theorem dC:∀(k:Nat) {c c':Cf} {fs fs':List Fm} {t t':N V},iv P G n k c fs t=some (c',fs',t')->At P G n U Q c' fs' t'->At P G n U Q c fs t
 | 0,_,_,_,_,_,_,h,u=>by cases h;exact u
 | k+1,_,_,_,_,_,_,h,u=>by
  unfold iv at h;split at h
  ·rename_i z;exact ze z<|dC k h u
  cases h
inductive Cd where
 | fa (s i k:Nat)
 | ag (t:Nat)
def jO (P:Program):List Cd->Bool
 | []=>true
 | .fa s i k::r=>match nV P s i with
  | some q=>bif Nat.beq q k then jO P r else false
  | none=>false
 | .ag t::r=>match dU P t with
  | some none=>jO P r
  | _=>false
def N4 (P:Program) (G:Cx) (n:Nat) (os:Array Oper) (t:N V) (o:Oper) (s i k:Nat) (x:Operand):Option (N V):=
 match bM os t o with
 | some true=>match bE G t x with
  | some (.ptr b off)=>dI t n o.dst (.ptr b (off+k))
  | _=>none
 | _=>none
def Ob (P:Program) (G:Cx) (n:Nat) (os:Array Oper) (t:N V) (o:Oper) (x:Operand) (b':Nat) (cells:List V):Option (N V×Nat):=
 match bM os t o with
 | some true=>match bE G t x with
  | some (.ptr b off)=>match nth cells off with
   | some v=>match dI t n o.dst v with
    | some t'=>some (t',b)
    | none=>none
   | none=>none
  | _=>none
 | _=>none
def OG (P:Program) (G:Cx) (n:Nat) (L:Own) (os:Array Oper) (t:N V) (o:Oper) (hs:List Nat) (cs:List Cd) (e1 e2:List Nat):Option (N V×List Nat×List Cd×List Nat×List Nat):=
 match o.op,hs with
 | .fieldAddr s x i,k::hs=>match N4 P G n os t o s i k x with
  | some t'=>some (t',hs,.fa s i k::cs,e1,e2)
  | none=>none
 | .load ty x,k::hs=>match nth L k with
  | some (b',.row cells _ _)=>match Ob P G n os t o x b' cells with
   | some (t',b)=>some (t',hs,.ag ty::cs,b::e1,b'::e2)
   | none=>none
  | _=>none
 | _,_=>none
def Qn (o:Oper):Bool:=match o.op with
 | .fieldAddr ..=>true
 | .load ..=>true
 | _=>false
def PU (os:Array Oper) (t:N V) (o:Oper):Bool:=match bM os t o with
 | some true=>Qn o
 | _=>false
def N5 (c:Cf) (t:N V):Bool:=match c with
 | .ops os (o::_)=>PU os t o
 | .jB os ((i,[])::_)=>match os[i]? with
  | some o=>PU os t o
  | none=>false
 | _=>false
def JB (P:Program) (G:Cx) (n:Nat) (L:Own) (c:Cf) (t:N V) (hs:List Nat) (cs:List Cd) (e1 e2:List Nat):Option (Cf×N V×List Nat×List Cd×List Nat×List Nat):=
 match c with
 | .ops os (o::l)=>match OG P G n L os t o hs cs e1 e2 with
  | some (t',hs,cs,e1,e2)=>some (.ops os l,t',hs,cs,e1,e2)
  | none=>none
 | .jB os ((i,[])::l)=>match os[i]? with
  | some o=>match OG P G n L os t o hs cs e1 e2 with
   | some (t',hs,cs,e1,e2)=>some (.jB os l,t',hs,cs,e1,e2)
   | none=>none
  | none=>none
 | _=>none
def og (P:Program) (G:Cx) (n:Nat) (L:Own):Nat->Cf->List Fm->N V->List Nat->List Cd->List Nat->List Nat->Option (Cf×List Fm×N V×List Cd×List Nat×List Nat)
 | 0,c,fs,t,_,cs,e1,e2=>some (c,fs,t,cs,e1,e2)
 | k+1,c,fs,t,hs,cs,e1,e2=>match N5 c t with
  | true=>match JB P G n L c t hs cs e1 e2 with
   | some (c',t',hs',cs',e1',e2')=>og P G n L k c' fs t' hs' cs' e1' e2'
   | none=>none
  | false=>match Aw P G n c fs t with
   | some (c',fs',t')=>og P G n L k c' fs' t' hs cs e1 e2
   | none=>none
theorem Kq {s i k:Nat} {r:List Cd} (h:jO P (.fa s i k::r)=true):nV P s i=some k/\jO P r=true:=by
 unfold jO at h;split at h
 ·rename_i q hq;cases hk:Nat.beq q k with
  | true=>rw[hk] at h;exact⟨by rw[hq,nB hk],h⟩
  | false=>rw[hk] at h;cases h
 cases h
theorem Kp {t:Nat} {r:List Cd} (h:jO P (.ag t::r)=true):dU P t=some none/\jO P r=true:=by
 unfold jO at h;split at h
 ·rename_i u;exact⟨u,h⟩
 cases h
theorem Jf {K:KP} {L:Own} (aq:J U K L) {os:Array Oper} {t t':N V} {o:Oper} {R A:List Nat} {cs cs':List Cd} {e1 F u z:List Nat} (h:OG P G n L os t o R cs e1 F=some (t',A,cs',u,z)) (hc:jO P cs'=true) (he:u=z):
  (jO P cs=true/\e1=F)/\bM os t o=some true/\∃v,dW P G (bE G t) U o.op= .val v U/\dI t n o.dst v=some t':=by
 unfold OG at h;split at h
 ·rename_i s x i k C E;split at h
  ·rename_i X hf;cases h;obtain⟨h1,h2⟩:=Kq hc;unfold N4 at hf;split at hf
   ·rename_i hw;split at hf
    ·rename_i b off hx;exact⟨⟨h2,he⟩,hw,_,by rw[E];exact av hx h1,hf⟩
    cases hf
   cases hf
  cases h
 ·rename_i ty x k C E;split at h
  ·rename_i b' cells ee ro M;split at h
   ·rename_i X b hf;cases h;obtain⟨h1,h2⟩:=Kp hc;have hb:b=b':=(List.cons.inj he).1;have he':=(List.cons.inj he).2;unfold Ob at hf;split at hf
    ·rename_i hw;split at hf
     ·rename_i b2 off hx;split at hf
      ·rename_i v hv;split at hf
       ·rename_i t2 hp;cases hf;subst hb;rw[eF] at M;exact⟨⟨h2,he'⟩,hw,v,by rw[E];exact ay hx (aq.get k M) h1 hv,hp⟩
       cases hf
      cases hf
     cases hf
    cases hf
   cases h
  cases h
 cases h
theorem JC {K:KP} {L:Own} (aq:J U K L) {c c':Cf} {fs:List Fm} {t t':N V} {F A:List Nat} {cs cs':List Cd} {e1 C u z:List Nat} (h:JB P G n L c t F cs e1 C=some (c',t',A,cs',u,z)) (hk:jO P cs'=true) (he:u=z) (E:At P G n U Q c' fs t'):(jO P cs=true/\e1=C)/\At P G n U Q c fs t:=by
 unfold JB at h;split at h
 ·split at h
  ·rename_i hy;cases h;obtain⟨h1,hw,v,hv,hp⟩:=Jf aq hy hk he;exact⟨h1,O hw hv hp E⟩
  cases h
 ·split at h
  ·rename_i o M;split at h
   ·rename_i hy;cases h;obtain⟨h1,hw,v,hv,hp⟩:=Jf aq hy hk he;exact⟨h1,al M hw hv hp E⟩
   cases h
  cases h
 cases h
theorem fY {K:KP} {L:Own} (aq:J U K L):∀(k:Nat) {c c':Cf} {fs fs':List Fm} {t t':N V} {u:List Nat} {cs cs':List Cd} {e1 F z A:List Nat},og P G n L k c fs t u cs e1 F=some (c',fs',t',cs',z,A)->jO P cs'=true->z=A->At P G n U Q c' fs' t'->(jO P cs=true/\e1=F)/\At P G n U Q c fs t
 | 0,_,_,_,_,_,_,_,_,_,_,_,_,_,h,hk,he,C=>by cases h;exact⟨⟨hk,he⟩,C⟩
 | k+1,_,_,_,_,_,_,_,_,_,_,_,_,_,h,hk,he,C=>by
  unfold og at h;split at h
  ·split at h
   ·rename_i u;obtain⟨⟨h1,h2⟩,E⟩:=fY aq k h hk he C;exact JC aq u h1 h2 E
   cases h
  split at h
  ·rename_i u;obtain⟨h1,E⟩:=fY aq k h hk he C;exact⟨h1,ze u E⟩
  cases h
end
theorem bd.Pg {W:List Nat} {t t':N V} {w:Nat} (hw:Nat.blt w 256=true) (h:bd (w::W) t t'):bd W (t.put (t'.get w) w) t':=by
 rw[sE] at hw;obtain⟨h1,h2,u⟩:=h;obtain⟨s,m,l⟩:=t;rw[N.s7 _ _ _ _ hw,N.pY _ hw];refine⟨h1,h2,fun k hk hn=>?_⟩;show _=jV (pF s w _) k;rw[mF _ _ _ _ hw hk];split
 ·rename_i e;rw[e]
 rename_i e;refine u k hk ?_;rw[List.elem_cons,hn];have:(k == w)=false:=by simpa using e
 rw[this]
def rN (o:Nat->Option V):N V->List Nat->N V
 | t,[]=>t
 | t,a::r=>rN o (t.put (o a) a) r
def yr (o:Nat->Option V):List (Nat×V)->Nat->Option V
 | [],a=>o a
 | (k,v)::r,a=>bif Nat.beq a k then some v else yr o r a
theorem zi {o:Nat->Option V}:∀{ks:List (Nat×V)},(∀e∈ks,o e.1=some e.2)->yr o ks=o
 | [],_=>rfl
 | (k,v)::r,h=>funext fun a=>by
  show(bif Nat.beq a k then some v else yr o r a)=o a;cases hb:Nat.beq a k with
  | true=>rw[nB hb];exact(h (k,v) (.head _)).symm
  | false=>rw[zi fun e he=>h e (.tail _ he)];rfl
def okW (W:List Nat):Bool:=W.all fun k=>Nat.blt k 256
theorem bd.fn {t':N V}:∀{W:List Nat} {t:N V},okW W=true->bd W t t'->t'=rN (fun k=>t'.get k) t W
 | [],_,_,h=>h.nil
 | a::r,t,hw,h=>by
  have hw:(Nat.blt a 256 && okW r)=true:=hw;rw[bA_] at hw;exact(bd.fn (W:=r) hw.2 (h.Pg hw.1):)
section
variable {W:List Nat} {t t':N V}
theorem bd.qs {ks:List (Nat×V)} (h:bd W t t') (hk:∀e∈ks,t'.get e.1=some e.2) (hw:okW W=true):∃o,t'=rN (yr o ks) t W:=
 ⟨fun k=>t'.get k,(bd.fn hw h).trans<|congrArg (fun o=>rN o t W) (zi hk).symm⟩
variable {k1 k2 k3 k4 k5 k6:Nat} {v1 v2 v3 v4 v5 v6:V} (h:bd W t t')
include h
theorem bd.q0 (hw:okW W=true):∃o,t'=rN (yr o []) t W:=h.qs (ks:=[]) (fun e he=>by cases he) hw
theorem bd.q1 (h1:t'.get k1=some v1) (hw:okW W=true):∃o,t'=rN (yr o [(k1,v1)]) t W:=h.qs (fun e he=>by simp at he;subst he;exact h1) hw
theorem bd.q2 (h1:t'.get k1=some v1) (h2:t'.get k2=some v2) (hw:okW W=true):∃o,t'=rN (yr o [(k1,v1),(k2,v2)]) t W:=h.qs (fun e he=>by simp at he;rcases he with rfl | rfl;exact h1;exact h2) hw
theorem bd.q3 (h1:t'.get k1=some v1) (h2:t'.get k2=some v2) (u:t'.get k3=some v3) (hw:okW W=true):∃o,t'=rN (yr o [(k1,v1),(k2,v2),(k3,v3)]) t W:=h.qs (fun e he=>by simp at he;rcases he with rfl | rfl | rfl;exact h1;exact h2;exact u) hw
theorem bd.q4 (h1:t'.get k1=some v1) (h2:t'.get k2=some v2) (u:t'.get k3=some v3) (h4:t'.get k4=some v4) (hw:okW W=true):∃o,t'=rN (yr o [(k1,v1),(k2,v2),(k3,v3),(k4,v4)]) t W:=h.qs (fun e he=>by simp at he;rcases he with rfl | rfl | rfl | rfl;exact h1;exact h2;exact u;exact h4) hw
theorem bd.q5 (h1:t'.get k1=some v1) (h2:t'.get k2=some v2) (u:t'.get k3=some v3) (h4:t'.get k4=some v4) (h5:t'.get k5=some v5) (hw:okW W=true):∃o,t'=rN (yr o [(k1,v1),(k2,v2),(k3,v3),(k4,v4),(k5,v5)]) t W:=h.qs (fun e he=>by simp at he;rcases he with rfl | rfl | rfl | rfl | rfl;exact h1;exact h2;exact u;exact h4;exact h5) hw
end
theorem oF {W:List Nat} {t t':N V} (h:bd W t t':=by repeat (first | with_reducible exact bd.refl _ _ | refine bd.put Z ?_)):bd W t t':=h
def Ms (i:Nat) (t:N V):List V->N V
 | []=>t
 | a::r=>Ms (i+1) (t.put (some a) i) r
theorem PS {P:Program} {G:Cx} (u:Plain G) {f:Nat} {fn:Func} {c:Code} {args:List V} {U:D} {R:V->D->Prop} (hf:P.funcs[f]?=some fn) (hb:fn.body=some c) (h:Ev P G c fn.ntmps (Ms 0 .leaf args) U (BB P fn R))
  (z:ry fn.ntmps args=some (Ms 0 .leaf args):=by rfl) (hk:Nat.beq f KY=false:=by rfl) (hl:DY f=false:=by rfl):bk P G f args U R:=bh u hf hb z h hk hl
def zp:List Nat->List (Nat×List Nat)
 | []=>[]
 | a::r=>(a,[])::zp r
def rg (a:Nat):Nat->List Nat
 | 0=>[]
 | n+1=>a::rg (a+1) n
end Go.Ev
namespace Go.Ev
variable [Env]
section
variable {P:Program} {G:Cx} {n:Nat} {U:D} {Q:Ex->N V->D->Prop} {os os2:Array Oper} {l l2:List Oper} {lp lp2:List (Nat×List Nat)} {c c2:Code} {t t2:N V} {K:KP} {L:Own} {hs:List Nat} {cs:List Cd} {e1 e2:List Nat}
theorem OH {u:Code} {z:Nat} (k:Nat) (h:iv P G n k (.code c) [] t=some (.code c2,[.dE z,.seq u],t2)) (A:Ev P G c2 n t2 U (iL z<|cN P G n u Q)):Ev P G c n t U Q:=(dC (Q:=Q) k h A:)
theorem Ps {u:Code} (k:Nat) (h:iv P G n k (.code c) [] t=some (.code c2,[.seq u],t2)) (z:Ev P G c2 n t2 U (cN P G n u Q)):Ev P G c n t U Q:=(dC (Q:=Q) k h z:)
theorem PW (k:Nat) (h:iv P G n k (.code c) [] t=some (.out .normal,[],t2)) (u:Q .normal t2 U):Ev P G c n t U Q:=(dC (Q:=Q) k h u:)
theorem Pt {u:Code} (k:Nat) (h:iv P G n k (.code c) [] t=some (.ops os2 l2,[.seq u],t2)) (z:bP P G os2 n l2 t2 U (cN P G n u Q)):Ev P G c n t U Q:=(dC (Q:=Q) k h z:)
theorem OI {u z:Code} (k:Nat) (h:iv P G n k (.code c) [] t=some (.ops os2 l2,[.seq u,.seq z],t2)) (A:bP P G os2 n l2 t2 U (cN P G n u<|cN P G n z Q)):Ev P G c n t U Q:=(dC (Q:=Q) k h A:)
theorem PX (k:Nat) (h:iv P G n k (.code c) [] t=some (.out .ret,[],t2)) (u:Q .ret t2 U):Ev P G c n t U Q:=(dC (Q:=Q) k h u:)
theorem Ok {u:Code} {z:Code} {A:Nat} (k:Nat) (h:iv P G n k (.code c) [.seq u] t=some (.code c2,[.dE A,.seq z],t2)) (C:Ev P G c2 n t2 U (iL A<|cN P G n z Q)):Ev P G c n t U (cN P G n u Q):=(dC (Q:=Q) k h C:)
theorem OJ {u:Code} {z:Code} (k:Nat) (h:iv P G n k (.code c) [.seq u] t=some (.code c2,[.seq z],t2)) (A:Ev P G c2 n t2 U (cN P G n z Q)):Ev P G c n t U (cN P G n u Q):=(dC (Q:=Q) k h A:)
theorem NO {u:Code} {z A:Code} {C:Nat} (k:Nat) (h:iv P G n k (.code c) [.seq u] t=some (.code c2,[.seq z,.dE C,.seq A],t2)) (E:Ev P G c2 n t2 U (cN P G n z<|iL C<|cN P G n A Q)):Ev P G c n t U (cN P G n u Q):=(dC (Q:=Q) k h E:)
theorem OK {u:Code} {z:Code} (k:Nat) (h:iv P G n k (.code c) [.seq u] t=some (.ops os2 l2,[.seq z],t2)) (A:bP P G os2 n l2 t2 U (cN P G n z Q)):Ev P G c n t U (cN P G n u Q):=(dC (Q:=Q) k h A:)
theorem NP {u:Code} {z A:Code} {C:Nat} (k:Nat) (h:iv P G n k (.code c) [.seq u] t=some (.ops os2 l2,[.seq z,.dE C,.seq A],t2)) (E:bP P G os2 n l2 t2 U (cN P G n z<|iL C<|cN P G n A Q)):Ev P G c n t U (cN P G n u Q):=(dC (Q:=Q) k h E:)
theorem Ol {u:Code} {z A:Code} (k:Nat) (h:iv P G n k (.code c) [.seq u] t=some (.ops os2 l2,[.seq z,.seq A],t2)) (C:bP P G os2 n l2 t2 U (cN P G n z<|cN P G n A Q)):Ev P G c n t U (cN P G n u Q):=(dC (Q:=Q) k h C:)
theorem Pu {u:Code} (k:Nat) (h:iv P G n k (.code c) [.seq u] t=some (.out .ret,[],t2)) (z:Q .ret t2 U):Ev P G c n t U (cN P G n u Q):=(dC (Q:=Q) k h z:)
theorem OL {u:Code} {z:Nat} {bI1:Nat->N V->D->Prop} {j:Nat} (k:Nat) (h:iv P G n k (.code c) [.seq u,.OF bI1 z] t=some (.out (.exit j),[],t2)) (A:Q (.exit j) t2 U):Ev P G c n t U (cN P G n u<|wV bI1 z Q):=(dC (Q:=Q) k h A:)
theorem PY (k:Nat) (h:iv P G n k (.ops os l) [] t=some (.out .normal,[],t2)) (u:Q .normal t2 U):bP P G os n l t U Q:=(dC (Q:=Q) k h u:)
theorem PZ (k:Nat) (h:iv P G n k (.ops os l) [] t=some (.ops os2 l2,[],t2)) (u:bP P G os2 n l2 t2 U Q):bP P G os n l t U Q:=(dC (Q:=Q) k h u:)
theorem Pv {u:Code} (k:Nat) (h:iv P G n k (.ops os l) [.seq u] t=some (.code c2,[],t2)) (z:Ev P G c2 n t2 U Q):bP P G os n l t U (cN P G n u Q):=(dC (Q:=Q) k h z:)
theorem OM {u:Code} {z:Nat} (k:Nat) (h:iv P G n k (.ops os l) [.seq u] t=some (.code c2,[.dE z],t2)) (A:Ev P G c2 n t2 U (iL z Q)):bP P G os n l t U (cN P G n u Q):=(dC (Q:=Q) k h A:)
theorem Om {u:Code} {z:Code} {A:Nat} (k:Nat) (h:iv P G n k (.ops os l) [.seq u] t=some (.code c2,[.dE A,.seq z],t2)) (C:Ev P G c2 n t2 U (iL A<|cN P G n z Q)):bP P G os n l t U (cN P G n u Q):=(dC (Q:=Q) k h C:)
theorem ON {u:Code} {z:Code} (k:Nat) (h:iv P G n k (.ops os l) [.seq u] t=some (.code c2,[.seq z],t2)) (A:Ev P G c2 n t2 U (cN P G n z Q)):bP P G os n l t U (cN P G n u Q):=(dC (Q:=Q) k h A:)
theorem Pw {u:Code} (k:Nat) (h:iv P G n k (.ops os l) [.seq u] t=some (.ops os2 l2,[],t2)) (z:bP P G os2 n l2 t2 U Q):bP P G os n l t U (cN P G n u Q):=(dC (Q:=Q) k h z:)
theorem OO {u:Code} {z:Code} (k:Nat) (h:iv P G n k (.ops os l) [.seq u] t=some (.ops os2 l2,[.seq z],t2)) (A:bP P G os2 n l2 t2 U (cN P G n z Q)):bP P G os n l t U (cN P G n u Q):=(dC (Q:=Q) k h A:)
theorem On {u:Code} {z A:Code} (k:Nat) (h:iv P G n k (.ops os l) [.seq u] t=some (.ops os2 l2,[.seq z,.seq A],t2)) (C:bP P G os2 n l2 t2 U (cN P G n z<|cN P G n A Q)):bP P G os n l t U (cN P G n u Q):=(dC (Q:=Q) k h C:)
theorem Px {u:Code} (k:Nat) (h:iv P G n k (.ops os l) [.seq u] t=some (.out .ret,[],t2)) (z:Q .ret t2 U):bP P G os n l t U (cN P G n u Q):=(dC (Q:=Q) k h z:)
theorem OP {u:Code} {z:Nat} (k:Nat) (h:iv P G n k (.ops os l) [.seq u,.dE z] t=some (.out .normal,[],t2)) (A:Q .normal t2 U):bP P G os n l t U (cN P G n u<|iL z Q):=(dC (Q:=Q) k h A:)
theorem Oo {u z:Code} {A:Code} (k:Nat) (h:iv P G n k (.ops os l) [.seq u,.seq z] t=some (.ops os2 l2,[.seq A],t2)) (C:bP P G os2 n l2 t2 U (cN P G n A Q)):bP P G os n l t U (cN P G n u<|cN P G n z Q):=(dC (Q:=Q) k h C:)
theorem OQ {u z:Code} (k:Nat) (h:iv P G n k (.ops os l) [.seq u,.seq z] t=some (.out .ret,[],t2)) (A:Q .ret t2 U):bP P G os n l t U (cN P G n u<|cN P G n z Q):=(dC (Q:=Q) k h A:)
theorem OR {u z:Code} {j:Nat} (k:Nat) (h:iv P G n k (.ops os l) [.seq u,.seq z] t=some (.out (.exit j),[],t2)) (A:Q (.exit j) t2 U):bP P G os n l t U (cN P G n u<|cN P G n z Q):=(dC (Q:=Q) k h A:)
theorem P0 (k:Nat) (h:iv P G n k (.jB os lp) [] t=some (.out .normal,[],t2)) (u:Q .normal t2 U):cE P G os n lp t U Q:=(dC (Q:=Q) k h u:)
theorem P1 (k:Nat) (h:iv P G n k (.jB os lp) [] t=some (.jB os2 lp2,[],t2)) (u:cE P G os2 n lp2 t2 U Q):cE P G os n lp t U Q:=(dC (Q:=Q) k h u:)
theorem Py {u:Code} (k:Nat) (h:iv P G n k (.jB os lp) [.seq u] t=some (.code c2,[],t2)) (z:Ev P G c2 n t2 U Q):cE P G os n lp t U (cN P G n u Q):=(dC (Q:=Q) k h z:)
theorem OS {u:Code} {z:Code} (k:Nat) (h:iv P G n k (.jB os lp) [.seq u] t=some (.code c2,[.seq z],t2)) (A:Ev P G c2 n t2 U (cN P G n z Q)):cE P G os n lp t U (cN P G n u Q):=(dC (Q:=Q) k h A:)
theorem Pz {u:Code} (k:Nat) (h:iv P G n k (.jB os lp) [.seq u] t=some (.out .ret,[],t2)) (z:Q .ret t2 U):cE P G os n lp t U (cN P G n u Q):=(dC (Q:=Q) k h z:)
theorem OT {u z:Code} (k:Nat) (h:iv P G n k (.jB os lp) [.seq u,.seq z] t=some (.out .ret,[],t2)) (A:Q .ret t2 U):cE P G os n lp t U (cN P G n u<|cN P G n z Q):=(dC (Q:=Q) k h A:)
theorem P2 (aq:J U K L) (k:Nat) (hi:List Nat) (h:og P G n L k (.code c) [] t hi [] [] []=some (.ops os2 l2,[],t2,cs,e1,e2)) (he:e1=e2) (u:bP P G os2 n l2 t2 U Q) (hc:jO P cs=true:=by kernel_rfl):Ev P G c n t U Q:=((fY (Q:=Q) aq k h hc he u).2:)
theorem PA {u:Code} (aq:J U K L) (k:Nat) (hi:List Nat) (h:og P G n L k (.code c) [] t hi [] [] []=some (.ops os2 l2,[.seq u],t2,cs,e1,e2)) (he:e1=e2) (z:bP P G os2 n l2 t2 U (cN P G n u Q)) (hc:jO P cs=true:=by kernel_rfl):Ev P G c n t U Q:=((fY (Q:=Q) aq k h hc he z).2:)
theorem OU {u z:Code} (aq:J U K L) (k:Nat) (hi:List Nat) (h:og P G n L k (.code c) [] t hi [] [] []=some (.ops os2 l2,[.seq u,.seq z],t2,cs,e1,e2)) (he:e1=e2) (A:bP P G os2 n l2 t2 U (cN P G n u<|cN P G n z Q)) (hc:jO P cs=true:=by kernel_rfl):Ev P G c n t U Q:=((fY (Q:=Q) aq k h hc he A).2:)
theorem Oq {u:Code} {z:Code} {A:Nat} (aq:J U K L) (k:Nat) (hi:List Nat) (h:og P G n L k (.code c) [.seq u] t hi [] [] []=some (.ops os2 l2,[.dE A,.seq z],t2,cs,e1,e2)) (he:e1=e2) (C:bP P G os2 n l2 t2 U (iL A<|cN P G n z Q)) (hc:jO P cs=true:=by kernel_rfl):Ev P G c n t U (cN P G n u Q):=((fY (Q:=Q) aq k h hc he C).2:)
theorem OV {u:Code} {z:Code} (aq:J U K L) (k:Nat) (hi:List Nat) (h:og P G n L k (.code c) [.seq u] t hi [] [] []=some (.ops os2 l2,[.seq z],t2,cs,e1,e2)) (he:e1=e2) (A:bP P G os2 n l2 t2 U (cN P G n z Q)) (hc:jO P cs=true:=by kernel_rfl):Ev P G c n t U (cN P G n u Q):=((fY (Q:=Q) aq k h hc he A).2:)
theorem NQ {u:Code} {z A:Code} {C:Nat} (aq:J U K L) (k:Nat) (hi:List Nat) (h:og P G n L k (.code c) [.seq u] t hi [] [] []=some (.ops os2 l2,[.seq z,.dE C,.seq A],t2,cs,e1,e2)) (he:e1=e2) (E:bP P G os2 n l2 t2 U (cN P G n z<|iL C<|cN P G n A Q)) (hc:jO P cs=true:=by kernel_rfl):Ev P G c n t U (cN P G n u Q):=((fY (Q:=Q) aq k h hc he E).2:)
theorem Ot {u:Code} {z A:Code} (aq:J U K L) (k:Nat) (hi:List Nat) (h:og P G n L k (.code c) [.seq u] t hi [] [] []=some (.ops os2 l2,[.seq z,.seq A],t2,cs,e1,e2)) (he:e1=e2) (C:bP P G os2 n l2 t2 U (cN P G n z<|cN P G n A Q)) (hc:jO P cs=true:=by kernel_rfl):Ev P G c n t U (cN P G n u Q):=((fY (Q:=Q) aq k h hc he C).2:)
theorem PB {u:Code} (aq:J U K L) (k:Nat) (hi:List Nat) (h:og P G n L k (.code c) [.seq u] t hi [] [] []=some (.out .ret,[],t2,cs,e1,e2)) (he:e1=e2) (z:Q .ret t2 U) (hc:jO P cs=true:=by kernel_rfl):Ev P G c n t U (cN P G n u Q):=((fY (Q:=Q) aq k h hc he z).2:)
theorem P3 (aq:J U K L) (k:Nat) (hi:List Nat) (h:og P G n L k (.ops os l) [] t hi [] [] []=some (.ops os2 l2,[],t2,cs,e1,e2)) (he:e1=e2) (u:bP P G os2 n l2 t2 U Q) (hc:jO P cs=true:=by kernel_rfl):bP P G os n l t U Q:=((fY (Q:=Q) aq k h hc he u).2:)
theorem PC {u:Code} (aq:J U K L) (k:Nat) (hi:List Nat) (h:og P G n L k (.ops os l) [.seq u] t hi [] [] []=some (.code c2,[],t2,cs,e1,e2)) (he:e1=e2) (z:Ev P G c2 n t2 U Q) (hc:jO P cs=true:=by kernel_rfl):bP P G os n l t U (cN P G n u Q):=((fY (Q:=Q) aq k h hc he z).2:)
theorem OW {u:Code} {z:Code} (aq:J U K L) (k:Nat) (hi:List Nat) (h:og P G n L k (.ops os l) [.seq u] t hi [] [] []=some (.code c2,[.seq z],t2,cs,e1,e2)) (he:e1=e2) (A:Ev P G c2 n t2 U (cN P G n z Q)) (hc:jO P cs=true:=by kernel_rfl):bP P G os n l t U (cN P G n u Q):=((fY (Q:=Q) aq k h hc he A).2:)
theorem PE {u:Code} (aq:J U K L) (k:Nat) (hi:List Nat) (h:og P G n L k (.ops os l) [.seq u] t hi [] [] []=some (.ops os2 l2,[],t2,cs,e1,e2)) (he:e1=e2) (z:bP P G os2 n l2 t2 U Q) (hc:jO P cs=true:=by kernel_rfl):bP P G os n l t U (cN P G n u Q):=((fY (Q:=Q) aq k h hc he z).2:)
theorem OX {u:Code} {z:Code} (aq:J U K L) (k:Nat) (hi:List Nat) (h:og P G n L k (.ops os l) [.seq u] t hi [] [] []=some (.ops os2 l2,[.seq z],t2,cs,e1,e2)) (he:e1=e2) (A:bP P G os2 n l2 t2 U (cN P G n z Q)) (hc:jO P cs=true:=by kernel_rfl):bP P G os n l t U (cN P G n u Q):=((fY (Q:=Q) aq k h hc he A).2:)
theorem Ou {u:Code} {z A:Code} (aq:J U K L) (k:Nat) (hi:List Nat) (h:og P G n L k (.ops os l) [.seq u] t hi [] [] []=some (.ops os2 l2,[.seq z,.seq A],t2,cs,e1,e2)) (he:e1=e2) (C:bP P G os2 n l2 t2 U (cN P G n z<|cN P G n A Q)) (hc:jO P cs=true:=by kernel_rfl):bP P G os n l t U (cN P G n u Q):=((fY (Q:=Q) aq k h hc he C).2:)
theorem PF {u:Code} (aq:J U K L) (k:Nat) (hi:List Nat) (h:og P G n L k (.ops os l) [.seq u] t hi [] [] []=some (.out .ret,[],t2,cs,e1,e2)) (he:e1=e2) (z:Q .ret t2 U) (hc:jO P cs=true:=by kernel_rfl):bP P G os n l t U (cN P G n u Q):=((fY (Q:=Q) aq k h hc he z).2:)
theorem P4 (aq:J U K L) (k:Nat) (hi:List Nat) (h:og P G n L k (.jB os lp) [] t hi [] [] []=some (.jB os2 lp2,[],t2,cs,e1,e2)) (he:e1=e2) (u:cE P G os2 n lp2 t2 U Q) (hc:jO P cs=true:=by kernel_rfl):cE P G os n lp t U Q:=((fY (Q:=Q) aq k h hc he u).2:)
end
inductive XE where
 | mk (op num:Int) (name:List Nat) (kids:List XE)
structure XI where
 kind:Int
 pc:Int
 loc:Int
 order:Int
 to:Int
 exprs:List XE
structure XC where
 aY:Int
 ins:List XI
def ey (K:KP):Nat->XE->List V->Prop
 | 0,_,_=>False
 | k+1,.mk op num name kids,vs=>∃v,vs= [.int .i64 op,.int .i64 num,.str name,v]/\bR K 4 (ey K k) kids v
def iI (K:KP) (k:Nat) (x:XI) (vs:List V):Prop:=∃v,vs= [.int .i64 x.kind,.int .i64 x.pc,.int .i64 x.loc,.int .i64 x.order,.int .i64 x.to,v]/\bR K 4 (ey K k) x.exprs v
def mY (K:KP) (k:Nat) (x:XC) (vs:List V):Prop:=∃v,vs= [.int .i64 x.aY,v]/\bR K 6 (iI K k) x.ins v
def XE.kids:XE->List XE
 | .mk _ _ _ k=>k
theorem ey.shape {K:KP} {k:Nat} {x:XE} {vs:List V} (h:ey K k x vs):∃op num name v,vs= [.int .i64 op,.int .i64 num,.str name,v]/\bR K 4 (ey K (k-1)) x.kids v:=by
 cases k with
 | zero=>cases x;exact h.elim
 | succ k=>
  obtain⟨op,num,name,kids⟩:=x;obtain⟨v,rfl,hk⟩:=h;exact⟨_,_,_,v,Z,hk⟩
open Classical in
def dk {α:Type} (a b:α):Bool:=decide (a=b)
theorem dc {α:Type} {a b:α}:dk a b=true↔a=b:=by unfold dk;simp
theorem mV {α:Type} {a b:α}:dk a b=false↔a≠b:=by unfold dk;simp
theorem bT {c:Bool} (h:(bif c then false else true)=true):c=false:=by cases c<;>simp_all
theorem bj {c:Bool} (h:(bif c then false else true)=false):c=true:=by cases c<;>simp_all
theorem eZ {α:Type} {l1 l2:List α} (h:I (.ofNat l1.length) (.ofNat l2.length)=false):dk l1 l2=false:=by
 rw[mV];rintro rfl;rw[dF] at h;simp at h
theorem dB {α β:Type} {l1:List α} {l2:List β} (h:I (.ofNat l1.length) (.ofNat l2.length)=true):l1.length=l2.length:=by
 rw[dF] at h;exact iJ_<|of_decide_eq_true h
theorem fA {α:Type} {l1 l2:List α} {i:Nat} {x y:α} (hx:l1[i]?=some x) (hy:l2[i]?=some y) (h:dk x y=false):dk l1 l2=false:=by
 rw[mV] at h⊢;rintro rfl;rw[hx] at hy;exact h<|Option.some.inj hy
theorem ei {α:Type} {l1 l2:List α} {i:Nat} (hl:l1.length=l2.length) (hi:l1.length<=i) (h:∀k,k<i->l1[k]?=l2[k]?):dk l1 l2=true:=by
 rw[dc];refine List.ext_getElem? fun k=>?_
 by_cases hk:k<i
 ·exact h k hk
 rw[gN_ B,gN_ B]
theorem jH {α:Type} {l1 l2:List α} {i:Nat} {x y:α} (h:∀k,k<i->l1[k]?=l2[k]?) (hx:l1[i]?=some x) (hy:l2[i]?=some y) (u:dk x y=true):∀k,k<i+1->l1[k]?=l2[k]?:=fun k hk=>by
 rw[dc] at u
 by_cases e:k=i
 ·subst e;rw[hx,hy,u]
 exact h k B
theorem bC {a b:Nat} (h:bU (.ofNat a) (.ofNat b)=false):b<=a:=by
 rw[eP,decide_eq_false_iff_not] at h;have h:¬a<b:=fun e=>h (Int.ofNat_lt.2 e)
 omega
theorem bu {a b:Nat} (h:bU (.ofNat a) (.ofNat b)=true):a<b:=by
 rw[eP,decide_eq_true_iff] at h;exact Int.ofNat_lt.1 h
theorem cm {α:Type} {l:List α} {i:Nat} (h:i<l.length):∃x,l[i]?=some x:=⟨l[i],gC h⟩
def lq (f:XE->Int->Int):List XE->Int->Int
 | [],m=>m
 | x::r,m=>bif bU m 0 then m else lq f r (f x m)
def uH (name:List Nat) (left:Int):Int:=wr .i64 (Int.sub (wr .i64<|Int.sub left 1)<|wr .i64<|Int.tdiv (.ofNat<|cX name) 20)
def px:Nat->XE->Int->Int
 | 0,_,m=>m
 | k+1,.mk _ _ name kids,m=>lq (px k) kids (uH name m)
def wS (k:Nat) (x:XE) (most:Int):Bool:=bif bU (px k x most) 0 then false else true
def sf (k:Nat) (x:XI):Bool:=bif bU 4 (.ofNat x.exprs.length) then false else x.exprs.all fun e=>wS k e 60
def p5 (k:Nat) (most:Int) (x:XC):Bool:=bif bU most (.ofNat x.ins.length) then false else x.ins.all (sf k)
def qR (k:Nat) (most:Int) (l:List XC):Bool:=(l.take 6).all (p5 k most) && (bif bU 6 (.ofNat l.length) then false else true)
theorem GJ {f:XE->Int->Int} {l:List XE} {i:Nat} {m:Int} (h:l.length<=i):lq f (l.drop i) m=m:=by rw[List.drop_eq_nil_of_le h];rfl
theorem GI {f:XE->Int->Int} {l:List XE} {m:Int} (h:bU m 0=true):lq f l m=m:=by
 cases l with
 | nil=>rfl
 | cons x r=>show(bif bU m 0 then m else _)=m;rw[h];rfl
theorem DO {f:XE->Int->Int} {l:List XE} {i:Nat} {m:Int} {x:XE} (hx:l[i]?=some x) (h:bU m 0=false):lq f (l.drop i) m=lq f (l.drop (i+1)) (f x m):=by
 have u:i<l.length:=(gA.1 hx).1;rw[List.drop_eq_getElem_cons u];have:l[i]=x:=(gA.1 hx).2;rw[this];show(bif bU m 0 then m else _)=_;rw[h];rfl
theorem gG {α:Type} {f:α->Bool} {l:List α} {i:Nat} {x:α} (hx:l[i]?=some x) (h:f x=false):l.all f=false:=by
 rw[List.all_eq_false];exact⟨x,gB_ hx,by rw[h];simp⟩
theorem Kj {α:Type} {f:α->Bool} {l:List α} {i n:Nat} {x:α} (hx:l[i]?=some x) (hi:i<n) (h:f x=false):(l.take n).all f=false:=gG (i:=i) (by rw[List.getElem?_take,if_pos hi,hx]) h
theorem eR {α:Type} {f:α->Bool} {l:List α} {i:Nat} {x:α} (u:(l.take i).all f=true) (hx:l[i]?=some x) (h:f x=true):(l.take (i+1)).all f=true:=by
 rw[List.take_add_one,hx,List.all_append,u];simp[h]
theorem dR {α:Type} {f:α->Bool} {l:List α} {i:Nat} (u:(l.take i).all f=true) (h:l.length<=i):l.all f=true:=by
 rw[tL_ h] at u;exact u
theorem Bb {α:Type} {f:α->Bool} {l:List α} {i n:Nat} (u:(l.take i).all f=true) (h:n<=i):(l.take n).all f=true:=by
 rw[aE_] at u⊢
 exact fun x hx=>u x (by
  obtain⟨j,hj⟩:=gO_ hx;rw[List.getElem?_take] at hj;split at hj
  ·exact gB_ (i:=j) (by rw[List.getElem?_take,if_pos B,hj])
  cases hj)
theorem ey.beq {K:KP} {k:Nat} {x:XE} {vs:List V} (h:ey K k x vs):dX (.agg vs) (.agg vs)=true:=by
 cases k with
 | zero=>cases x;exact h.elim
 | succ k=>
  obtain⟨op,num,name,kids⟩:=x;obtain⟨v,rfl,hk⟩:=h;exact gH<|bS (fL _ _)<|bS (fL _ _)<|bS (sB _)<|bS hk.fD fx
theorem iI.beq {K:KP} {k:Nat} {x:XI} {vs:List V} (h:iI K k x vs):dX (.agg vs) (.agg vs)=true:=by
 obtain⟨v,rfl,hk⟩:=h;exact gH<|bS (fL _ _)<|bS (fL _ _)<|bS (fL _ _)<|bS (fL _ _)<|bS (fL _ _)<|bS hk.fD fx
theorem mY.beq {K:KP} {k:Nat} {x:XC} {vs:List V} (h:mY K k x vs):dX (.agg vs) (.agg vs)=true:=by
 obtain⟨v,rfl,hk⟩:=h;exact gH<|bS (fL _ _)<|bS hk.fD fx
theorem cL {α:Type} {l:List α} {i:Nat} (h:bU (.ofNat i) (.ofNat l.length)=true):∃x,l[i]?=some x/\i<l.length:=by
 rw[eP,decide_eq_true_iff] at h;have h:i<l.length:=Int.ofNat_lt.1 h;exact⟨l[i],gC h,h⟩
end Go.Ev
namespace Go.Ev
variable [Env]
def dy (n:Int) (vs:List V):Prop:=vs= [.int .i64 n]
def RL {α:Type} (K:KP) (m:Nat) (R:α->List V->Prop) (l:List α) (vs:List V):Prop:=∃v,vs= [v]/\bR K m R l v
theorem sI {a b:Int}:I a b=dk a b:=by rw[dF,Bool.eq_iff_iff,decide_eq_true_iff,dc]
theorem vL {α:Type} {f:α->Bool} {l:List α} {i:Nat} {x:α} (u:(l.take i).any f=false) (hx:l[i]?=some x) (h:f x=false):(l.take (i+1)).any f=false:=by
 rw[List.take_add_one,hx,List.any_append,u];simp[h]
theorem Dd {α:Type} {f:α->Bool} {l:List α} {i:Nat} {x:α} (hx:l[i]?=some x) (h:f x=true):l.any f=true:=by
 rw[List.any_eq_true];exact⟨x,gB_ hx,h⟩
theorem lO {α:Type} {f:α->Bool} {l:List α} {i:Nat} (u:(l.take i).any f=false) (h:l.length<=i):l.any f=false:=by
 rw[tL_ h] at u;exact u
def DB (xs ys:List Int):Bool:=
 List.rec (motive:=fun _=>List Int->Bool) (fun ys=>List.rec (motive:=fun _=>Bool) true (fun _ _ _=>false) ys)
  (fun x _ ih ys=>List.rec (motive:=fun _=>Bool) false (fun y r _=>bif I x y then ih r else false) ys) xs ys
theorem E9:∀(xs ys:List Int),DB xs ys=dk xs ys
 | [],[]=>by rw[show DB [] []=true from Z,eq_comm,dc]
 | [],_::_=>by rw[show DB [] (_::_)=false from Z,eq_comm,mV];simp
 | _::_,[]=>by rw[show DB (_::_) []=false from Z,eq_comm,mV];simp
 | x::xs,y::ys=>by
  show(bif I x y then DB xs ys else false)=_;rw[E9 xs ys,dF,Bool.eq_iff_iff,dc]
  by_cases h:x=y
  ·subst h;simp[dc]
  simp[h]
def ints (xs:List Int):List V:=xs.map (.int .i64)
def II:Option TypeDesc->Bool
 | some (.int .i64)=>true
 | _=>false
def tP (P:Program) (fs:List Field):Nat->Bool:=List.rec (motive:=fun _=>Nat->Bool) (fun _=>true) (fun f _ ih k=>II (P.underlying f.type) && (Nat.beq f.offset k && ih (k+1))) fs
def jL (P:Program) (t:TypeId) (n:Nat):Bool:=
 match structOf P t with
 | some fs=>tP P fs.toList 0 && (Nat.beq fs.toList.length n && (!P.eqGuardType P.depth t && (!P.stoodInHeld t && kU fs.toList)))
 | none=>false
theorem rF {P:Program}:∀(fs:List Field) (k:Nat) (xs ys:List Int),tP P fs k=true->xs.length=k+fs.length->ys.length=k+fs.length->eqFields P fs (ints xs) (ints ys)=some (DB (xs.drop k)<|ys.drop k)
 | [],k,xs,ys,_,h1,h2=>by
  rw[List.drop_eq_nil_of_le (by simp at h1;omega),List.drop_eq_nil_of_le (by simp at h2;omega)];rfl
 | f::fs,k,xs,ys,h,h1,h2=>by
  have h':(II (P.underlying f.type) && (Nat.beq f.offset k && tP P fs (k+1)))=true:=h;simp only[bA_] at h';obtain⟨e1,u,z⟩:=h';have hk:f.offset=k:=nB u
  have hu:P.underlying f.type=some (.int .i64):=by
   unfold II at e1;split at e1
   ·assumption
   cases e1
  have l1:k<xs.length:=by simp at h1;omega
  have l2:k<ys.length:=by simp at h2;omega
  have n1:nth (ints xs) f.offset=some (.int .i64 xs[k]):=by rw[eF,hk,ints,gM_,gC l1];rfl
  have A:nth (ints ys) f.offset=some (.int .i64 ys[k]):=by rw[eF,hk,ints,gM_,gC l2];rfl
  have ih:=rF fs (k+1) xs ys z (by simp at h1⊢;omega) (by simp at h2⊢;omega)
  show(match P.underlying f.type,nth (ints xs) f.offset,nth (ints ys) f.offset with
   | some .bool,some (.bool a),some (.bool b)=>bif (bif a then b else(bif b then false else true)) then eqFields P fs (ints xs) (ints ys) else some false
   | some (.int _),some (.int j a),some (.int k b)=>bif r9 j k then(bif I a b then eqFields P fs (ints xs) (ints ys) else some false) else none
   | some .string,some (.str a),some (.str b)=>bif gL a b then eqFields P fs (ints xs) (ints ys) else some false
   | some (.struct gs),_,_=>_
   | some (.array m e),_,_=>_
   | _,_,_=>none)=_
  rw[hu,n1,A,List.drop_eq_getElem_cons l1,List.drop_eq_getElem_cons l2,ih];show(bif I xs[k] ys[k] then _ else some false)=some (bif I xs[k] ys[k] then DB (xs.drop (k+1)) (ys.drop (k+1)) else false);cases I xs[k] ys[k]<;>rfl
theorem wi {P:Program} {t:TypeId} {n:Nat} {xs ys:List Int} (h:jL P t n=true) (hx:xs.length=n) (hy:ys.length=n):DA P t (.agg<|ints xs) (.agg<|ints ys)=some (dk xs ys):=by
 unfold jL at h;split at h
 ·rename_i fs u;simp only[bA_,Bool.not_eq_true'] at h;obtain⟨h1,h2,z,h4,h5⟩:=h;have hn:fs.toList.length=n:=nB h2;unfold DA;dsimp only;rw[u];dsimp only;rw[z,h4,h5];simp only[Bool.not_true,Bool.or_false,cond_false];rw[rF fs.toList 0 xs ys h1 B B,List.drop_zero,List.drop_zero,E9]
 cases h
section
variable {P:Program} {G:Cx} {ev:Operand->Option V} {U:D}
theorem J2 {t r:TypeId} {x y:Operand} {n:Nat} {ca cb:List Int} (h:jL P t n=true) (u:ca.length=n) (hb:cb.length=n) (hx:ev x=some (.agg<|ints ca)) (hy:ev y=some (.agg<|ints cb)):dW P G ev U (.binOp .eql t x y r)= .val (.bool<|dk ca cb) U:=by
 refine az hx hy ?_;show nc P .eql t _ _=_;unfold nc;dsimp only;rw[wi h u hb]
theorem zw {t r:TypeId} {x y:Operand} {n:Nat} {ca cb:List Int} (h:jL P t n=true) (u:ca.length=n) (hb:cb.length=n) (hx:ev x=some (.agg<|ints ca)) (hy:ev y=some (.agg<|ints cb)):dW P G ev U (.binOp .neq t x y r)= .val (.bool (bif dk ca cb then false else true)) U:=by
 refine az hx hy ?_;show nc P .neq t _ _=_;unfold nc;dsimp only;rw[wi h u hb]
end
structure dw where
 ia:Int
 index:Int
structure db where
 kind:Int
 loc:Int
 order:Int
 read:Int
 write:Int
structure XG where
 init:List Int
 threads:List (List db)
 from_:List (List dw)
 order:List (List dw)
def dw.ints (x:dw):List Int:=[x.ia,x.index]
def db.ints (x:db):List Int:=[x.kind,x.loc,x.order,x.read,x.write]
theorem dw.same {x y:dw}:dk x.ints y.ints=dk x y:=by
 rw[Bool.eq_iff_iff,dc,dc];cases x;cases y;simp[dw.ints]
theorem db.same {x y:db}:dk x.ints y.ints=dk x y:=by
 rw[Bool.eq_iff_iff,dc,dc];cases x;cases y;simp[db.ints]
def iV (x:dw) (vs:List V):Prop:=vs=ints x.ints
def iU (x:db) (vs:List V):Prop:=vs=ints x.ints
structure eN (K:KP) (g:XG) (a b c d:V):Prop where
 init:bR K 1 dy g.init a
 threads:bR K 1 (RL K 5 iU) g.threads b
 from_:bR K 1 (RL K 2 iV) g.from_ c
 order:bR K 1 (RL K 2 iV) g.order d
theorem nk {a b:XG}:dk a b=(dk a.init b.init && (dk a.threads b.threads && (dk a.from_ b.from_ && dk a.order b.order))):=by
 rw[Bool.eq_iff_iff,dc];cases a;cases b;simp[dc]
def dD (e:db):Bool:=bif I e.kind 1 then true else I e.kind 3
def bq (e:db):Bool:=bif I e.kind 2 then true else I e.kind 3
def aX (b:Bool):Bool:=bif b then false else true
def bW (e:db) (n:Int):Bool:=
 bif bU e.kind 1 then false else bif bU 4 e.kind then false else bif bU e.order 1 then false else bif bU 6 e.order then false else
 bif (bif (!dD e) then aX (I e.read 0) else false) then false else bif (bif (!bq e) then aX (I e.write 0) else false) then false else
 bif I e.kind 4 then I e.loc 0 else bif aX (bU e.loc 0) then bU e.loc n else false
def fh (g:XG) (id:dw):Option db:=
 match id.ia,id.index with
 | .ofNat 0,.ofNat i=>(g.init[i]?).map fun v=>⟨2,i,1,0,v⟩
 | .ofNat (t+1),.ofNat i=>(g.threads[t]?).bind (·[i]?)
 | _,_=>none
def AP (x:Option db):db:=x.getD ⟨0,0,0,0,0⟩
theorem tL {g:XG} {th ix:Int} (h:bU th 0=true):fh g ⟨th,ix⟩=none:=by
 rw[eP,decide_eq_true_iff] at h;cases th with
 | ofNat t=>exact absurd h (by simp)
 | negSucc t=>rfl
theorem qI {g:XG} {th ix:Int} (h:bU ix 0=true):fh g ⟨th,ix⟩=none:=by
 rw[eP,decide_eq_true_iff] at h;cases ix with
 | ofNat t=>exact absurd h (by simp)
 | negSucc t=>cases th with
  | ofNat n=>cases n<;>rfl
  | negSucc n=>rfl
theorem BD {g:XG} {th ix:Int} (h:bU (.ofNat g.threads.length) th=true):fh g ⟨th,ix⟩=none:=by
 rw[eP,decide_eq_true_iff] at h;cases th with
 | negSucc t=>rfl
 | ofNat t=>
  have h:g.threads.length<t:=Int.ofNat_lt.1 h;cases t with
  | zero=>omega
  | succ t=>
   cases ix with
   | negSucc n=>rfl
   | ofNat n=>
    show(g.threads[t]?).bind _=none;rw[gN_ B];rfl
theorem iQ {n:Int} (h:bU n 0=false):∃m:Nat,n= .ofNat m:=by
 rw[eP,decide_eq_false_iff_not] at h;cases n with
 | ofNat m=>exact⟨m,Z⟩
 | negSucc m=>exact absurd (Int.negSucc_lt_zero m) h
theorem FR {n:Nat} (h:I (.ofNat n) 0=false):∃m:Nat,n=m+1:=by
 cases n with
 | zero=>cases h
 | succ m=>exact⟨m,Z⟩
theorem ej {t:Nat} (h:t<=9223372036854775807):wr .i64 (Int.sub (.ofNat (t+1)) 1)= .ofNat t:=by
 have e:Int.sub (.ofNat (t+1)) 1= .ofNat t:=by
  show((t+1:Nat):Int)-1=(t:Int);omega
 rw[e];show(bif Nat.ble t 9223372036854775807 then _ else _)=_;rw[show Nat.ble t 9223372036854775807=true by rw[nE_];exact h];rfl
theorem mK {a b:Nat} (h:bU (.ofNat a) (.ofNat b)=false):b<=a:=bC h
theorem n8 {a b:Nat} (h:(bif bU (.ofNat a) (.ofNat b) then false else true)=false):a<b:=bu (bj h)
theorem nZ {a b:Nat} (h:(bif bU (.ofNat a) (.ofNat b) then false else true)=true):b<=a:=bC (bT h)
section
variable {P:Program} {G:Cx} {n:Nat} {t:N V} {U:D} {Q:Ex->N V->D->Prop}
theorem Al {fn:Func} {j k ty b m e:Nat} {ro:Bool} {cells:List V} {v:V} (u:fn.results.toList= [.cell j ty,.tmp k]) (h1:t.get j=some (.ptr b 0)) (hm:U.m.get b=some (.row cells e ro)) (z:dU P ty=some (some m)) (hn:cells.length=m) (h2:t.get k=some v):fm P fn t U=some (.tuple [.agg cells,v]):=by
 unfold fm;rw[u]
 have e1:g9 P t U (.cell j ty)=some (V.agg cells):=by
  show(match t.get (posOf j) with
   | some (.ptr b off)=>match U.m.get b with
    | some (.row cells _ _)=>match dU P ty with
     | some (some n)=>bif Nat.ble (off+n) (cX cells) then some (V.agg<|takeN (dS cells off) n) else none
     | some none=>nth cells off
     | none=>none
    | _=>none
   | _=>none)=_
  rw[show t.get (posOf j)=some (.ptr b 0) from h1];dsimp only;rw[hm];dsimp only;rw[z];dsimp only;rw[bK,hn,nA_,show Nat.ble m m=true by rw[nE_];exact nR_ _,du,dO,List.drop_zero,<-hn,List.take_length];rfl
 have A:g9 P t U (.tmp k)=some v:=h2
 have:cW (g9 P t U) [.cell j ty,.tmp k]=some [V.agg cells,v]:=by
  unfold cW;simp only[e1,A]
 rw[this]
theorem br {fn:Func} {R:V->D->Prop} {j k ty b m e:Nat} {ro:Bool} {cells:List V} {v:V} (u:fn.results.toList= [.cell j ty,.tmp k]) (h1:t.get j=some (.ptr b 0)) (hm:U.m.get b=some (.row cells e ro)) (z:dU P ty=some (some m)) (hn:cells.length=m) (h2:t.get k=some v) (A:R (.tuple [.agg cells,v]) U):BB P fn R .ret t U:=
 ⟨.inr Z,_,Al u h1 hm z hn h2,A⟩
end
end Go.Ev
namespace Go.Ev
variable [Env]
def dJ (g:XG) (id from_:dw):Bool:=
 bif !dD (AP<|fh g id) then dk [from_.ia,from_.index] [0,0] else
 bif (fh g from_).isSome then
  bif (bif dk [from_.ia,from_.index] [id.ia,id.index] then false else true) then
   bif bq (AP<|fh g from_) then
    bif I (AP<|fh g from_).loc (AP<|fh g id).loc then I (AP<|fh g from_).write (AP<|fh g id).read else false
   else false
  else false
 else false
def eK (g:XG):Bool:=bif bU 4 (.ofNat g.threads.length) then true else bif bU 6 (.ofNat g.init.length) then true else g.threads.any fun l=>bU 14 (.ofNat l.length)
end Go.Ev
end
