/- Part of the proof: an evaluator of the model's code, rules for walks on it, walks. Without conditions. -/
import Derived.Test.YtmeiccifbpehaaaGreatDoorEd
import Derived.Test.YtmeiccifbpehaaaGreatDoorEc
import Derived.Test.YtmeiccifbpehaaaGreatDoorEb
import Derived.Test.YtmeiccifbpehaaaGreatDoorProg
import Derived.KernelRfl
set_option linter.unusedSectionVars false
set_option linter.unusedVariables false
set_option linter.unusedSimpArgs false
noncomputable section
set_option maxHeartbeats 8000000
set_option maxRecDepth 100000
open Go.Proofs
namespace Go.Ev
variable [Env]
variable {j:Nat}
section
variable {g:XG}
theorem N8 {e:bW} (h:bQ e=true):bD e.kind 4=false:=by
 unfold bQ at h;cases u:bD e.kind 2 with
 | true=>rw[dS] at u⊢;rw[of_decide_eq_true u];rfl
 | false=>
  rw[u] at h;have h:bD e.kind 3=true:=h;rw[dS] at h⊢;rw[of_decide_eq_true h];rfl
theorem qQ (F:eE g) {i:Nat} (hi:i<nV g):(bQ (fc g i)=true/\∃p:Nat,fY g i= .ofNat p)∨(bQ (fc g i)=false/\fY g i= -1):=by
 rcases lg hi with ⟨x,v,h1,_,h3⟩ | ⟨t,k,row,e,h1,u,h3,G⟩
 ·refine .inl ⟨by rw[h3];rfl,0,?_⟩;unfold fY;rw[h1];rfl
 have hp:fY g i=(bif cW (fK (fun x:bV=>dv x.ints (gD g i).ints) (vW g e.loc) 0) 0 then-1 else wr .i64 (Int.add (fK (fun x:bV=>dv x.ints (gD g i).ints) (vW g e.loc) 0) 1)):=by
  unfold fY;rw[G];have:bD (gD g i).bM 0=false:=by rw[h1];rfl
  rw[this];rfl
 cases hw:bQ e with
 | true=>
  refine .inl ⟨by rw[G];exact hw,?_⟩;have hm:((⟨.ofNat (t+1),.ofNat k⟩:bV).ints,e.loc)∈jz g.threads 0:=oV.2 ⟨t,k,row,e,u,h3,hw,by rw[nA_];rfl,Z⟩;obtain⟨ln,r,id,N,Q,k3,R⟩:=oD.1 (F.perm.mem_iff.1 hm);rw[nA_] at R;have I:id=gD g i:=by rw[h1];exact(qE k3).symm
  subst I;have A:vW g e.loc=r:=by unfold vW;rw[R,show(Int.ofNat ln).toNat=ln from Z,N];rfl
  rw[A] at hp
  have C:cW (fK (fun x:bV=>dv x.ints (gD g i).ints) r 0) 0=false:=by
   have E:(r.any fun x:bV=>dv x.ints (gD g i).ints)=true:=List.any_eq_true.2 ⟨_,Q,eh.2 Z⟩;rw[oB,E];rfl
  obtain⟨a,K,aa⟩:∃a:Nat,fK (fun x:bV=>dv x.ints (gD g i).ints) r 0= .ofNat a/\a<r.length:=by
   have:∀{l:List bV} {b:Nat},l.any (fun x:bV=>dv x.ints (gD g i).ints)=true->∃a:Nat,fK (fun x:bV=>dv x.ints (gD g i).ints) l b= .ofNat (b+a)/\a<l.length:=by
    intro l;induction l with
    | nil=>intro b h;cases h
    | cons y l ih=>
     intro b h;unfold fK;cases hy:dv y.ints (gD g i).ints with
     | true=>exact⟨0,Z,Nat.succ_pos _⟩
     | false=>
      rw[List.any_cons,hy,Bool.false_or] at h;obtain⟨a,h1,u⟩:=ih (b:=b+1) h;exact⟨a+1,by show fK _ l (b+1)=_;rw[h1,show b+1+a=b+(a+1) by omega],Nat.succ_lt_succ u⟩
   obtain⟨a,h1,u⟩:=this (b:=0) (List.any_eq_true.2 ⟨_,Q,eh.2 Z⟩);exact⟨a,by rw[h1,nA_],u⟩
  have hrl:=oE (hJ.2 F) r (gB_ N);refine⟨a+1,?_⟩;rw[hp,C,K];exact a6 oM
 | false=>
  refine .inr ⟨by rw[G];exact hw,?_⟩
  have L:(vW g e.loc).any (fun x:bV=>dv x.ints (gD g i).ints)=false:=by
   refine List.any_eq_false.2 fun x hx hs=>?_
   have e1:x=gD g i:=qE (eh.1 hs);unfold vW at hx;cases A:g.order[e.loc.toNat]? with
   | none=>rw[A] at hx;cases hx
   | some r=>
    rw[A] at hx;obtain⟨t',k',row',e',M,T,W,X,_⟩:=Cc F A hx;rw[e1,h1] at M;have ht:t=t':=by have:=iJ_ (congrArg bV.bM M);omega
    have hk:k=k':=iJ_ (congrArg bV.index M);subst ht;subst hk;rw[u] at T;cases T;rw[h3] at W;cases W;rw[hw] at X;cases X
  rw[hp,oB,L];rfl
def sK (g:XG) (i j:Nat):Bool:= !(bD (fc g i).kind 4) && (!(bD (fc g j).kind 4) && bD (fc g i).loc (fc g j).loc)
theorem WM (C:eE g) {i:Nat} (hi:i<nV g) (hj:j<nV g):(!(cW (fY g i) 0) && (sK g i j && cW (fY g i) (fY g j)))=xJ g i j:=by
 unfold xJ sK;have neg:∀a:Nat,cW (Int.ofNat a) 0=false:=fun a=>by rw[show(0:Int)= .ofNat 0 from Z,gL];simp
 rcases qQ C hi with ⟨h1,p,u⟩ | ⟨h1,u⟩
 ·rcases qQ C hj with ⟨A,q,E⟩ | ⟨A,E⟩
  ·rw[h1,A,N8 h1,N8 A,u,neg];cases bD (fc g i).loc (fc g j).loc<;>rfl
  have:cW (fY g i) (fY g j)=false:=by
   rw[u,E,eQ,decide_eq_false_iff_not];intro aa;have:(0:Int)<=Int.ofNat p:=Int.natCast_nonneg p;omega
  rw[h1,A,this,Bool.and_false,Bool.and_false];rfl
 have:cW (fY g i) 0=true:=by rw[u];rfl
 rw[h1,this];rfl
theorem WY (A:eE g) {i:Nat} (hi:i<nV g) (hj:j<nV g):(!(bD (.ofNat i) (.ofNat j)) && (!(cW (gu g i) 0) && xJ g (gu g i).toNat j))=AF g i j:=by
 unfold AF;cases u:dq (fc g i) with
 | false=>
  have:gu g i= -1:=by unfold gu;rw[u];rfl
  rw[this];cases bD (.ofNat i) (.ofNat j)<;>rfl
 | true=>
  obtain⟨f,_,C,_⟩:=lN A hi u;have:cW (gu g i) 0=false:=by rw[C,show(0:Int)= .ofNat 0 from Z,gL];simp
  rw[this];cases bD (.ofNat i) (.ofNat j)<;>rfl
theorem Vo {i:Nat}:(!(bD (.ofNat i) (.ofNat j)) && sK g i j)=Lw g i j:=by
 unfold Lw sK;cases bD (.ofNat i) (.ofNat j)<;>cases bD (fc g i).kind 4<;>cases bD (fc g j).kind 4<;>rfl
theorem Wh {i:Nat} (hi:i<nV g) (hj:j<nV g):(!(bD (gD g j).bM 0) && (bD (gD g i).bM 0 || (bD (gD g i).bM (gD g j).bM && cW (gD g i).index (gD g j).index)))=nO g i j:=by
 unfold nO;have pos:∀a:Nat,cW 0 (Int.ofNat (a+1))=true:=fun a=>by rw[show(0:Int)= .ofNat 0 from Z,gL];simp
 rcases lg hi with ⟨x,v,h1,_⟩ | ⟨t,k,row,e,h1,_⟩<;>rcases lg hj with ⟨y,u,A,_⟩ | ⟨s,q,row',e',A,_⟩<;>rw[h1,A]<;>dsimp only
 ·rfl
 ·rw[pos];rfl
 ·rw[pos t];rfl
 rw[pos t,pos s];cases bD (Int.ofNat (t+1)) (Int.ofNat (s+1))<;>rfl
end
section
variable {g:XG}
theorem Ny {i:Nat} (hi:i<nV g):gf g (gD g i)=some (fc g i):=by
 rcases lg hi with ⟨x,v,h1,u,h3⟩ | ⟨t,k,row,e,h1,u,h3,A⟩
 ·rw[h3,h1];show(g.init[x]?).map (fun v=>(⟨2,x,1,0,v⟩:bW))=_;rw[u];rfl
 rw[h1,mA,u,A];exact h3
def pC (g:XG) (loc:Int) (id:bV):Int:=bif bD id.bM 0 then 0 else wr .i64 (Int.add (fK (fun x:bV=>dv x.ints id.ints) (vW g loc) 0) 1)
theorem zl {α:Type} {p:α->Bool}:∀{l:List α} {b:Nat},l.any p=true->∃a:Nat,a<l.length/\∀b,fK p l b= .ofNat (b+a)
 | [],_,h=>by cases h
 | y::l,b,h=>by
  cases hy:p y with
  | true=>exact⟨0,Nat.succ_pos _,fun b=>by unfold fK;rw[hy];rfl⟩
  | false=>
   rw[List.any_cons,hy,Bool.false_or] at h;obtain⟨a,h1,u⟩:=zl (b:=b) h
   exact⟨a+1,Nat.succ_lt_succ h1,fun b=>by
    unfold fK;rw[hy];show fK p l (b+1)=_;rw[u,show b+1+a=b+(a+1) by omega]⟩
theorem Ci (A:eE g) {i:Nat} (hi:i<nV g) (hw:bQ (fc g i)=true):tE g (gD g i)=pC g (fc g i).loc (gD g i):=by
 have hc:bD (eu g) 0=true:=by rw[hJ.2 A];rfl
 have key:∀{ln:Nat} {r:List bV},(fc g i).loc= .ofNat ln->g.order[ln]? =some r->tE g (gD g i)=fK (fun x:bV=>dv x.ints (gD g i).ints) (⟨0,.ofNat ln⟩::r) 0:=by
  intro ln r hl L;unfold tE;rw[Ny hi];show(bif bQ (fc g i) then fK _ (lX g (fc g i).loc) 0 else-1)=_;rw[hw,hl,Az hc L];rfl
 rcases lg hi with ⟨x,v,h1,C,h3⟩ | ⟨t,k,row,e,h1,C,h3,I⟩
 ·have hx:x<g.order.length:=by rw[A.order];exact(gA.1 C).1
  have hl:(fc g i).loc= .ofNat x:=by rw[h3]
  rw[key hl<|gC hx,h1];unfold pC;exact uz (n:=0) Z (l5.2 Z) fun k _ hk _=>absurd hk (nZ_ _)
 have E:bQ e=true:=by rw[<-I];exact hw
 have hm:((⟨.ofNat (t+1),.ofNat k⟩:bV).ints,e.loc)∈jz g.threads 0:=oV.2 ⟨t,k,row,e,C,h3,E,by rw[nA_];rfl,Z⟩;obtain⟨ln,r,id,F,M,N,K⟩:=oD.1 (A.perm.mem_iff.1 hm);rw[nA_] at K;have G:id=gD g i:=by rw[h1];exact(qE N).symm
 subst G;have hl:(fc g i).loc= .ofNat ln:=by rw[I];exact K
 have u:(r.any fun x:bV=>dv x.ints (gD g i).ints)=true:=List.any_eq_true.2 ⟨_,M,eh.2 Z⟩;obtain⟨a,ha,hb⟩:=zl (b:=0) u;have hrl:=oE (hJ.2 A) r (gB_ F)
 have hne:dv (⟨0,.ofNat ln⟩:bV).ints (gD g i).ints=false:=by
  cases Q:dv (⟨0,.ofNat ln⟩:bV).ints (gD g i).ints with
  | false=>rfl
  | true=>
   have:=congrArg bV.bM (l5.1 Q);rw[h1] at this;have:(0:Int)=((t+1:Nat):Int):=this;omega
 rw[key hl F];have R:vW g (fc g i).loc=r:=by unfold vW;rw[hl,show(Int.ofNat ln).toNat=ln from Z,F];rfl
 have e1:fK (fun x:bV=>dv x.ints (gD g i).ints) (⟨0,.ofNat ln⟩::r) 0= .ofNat (a+1):=by
  unfold fK;rw[hne];show fK _ r (0+1)=_;rw[hb,show 0+1+a=a+1 by omega]
 have e2:pC g (fc g i).loc (gD g i)= .ofNat (a+1):=by
  unfold pC;rw[R,hb,nA_,show bD (gD g i).bM 0=false by rw[h1];rfl];exact a6 oM
 rw[e1,e2]
def CU (g:XG) (t k:Nat) (e:bW):Bool:=bif bD e.kind 3 then bT (bD (pC g e.loc ⟨.ofNat (t+1),.ofNat k⟩)<|wr .i64<|Int.add (pC g e.loc<|Qm g ⟨.ofNat (t+1),.ofNat k⟩) 1) else false
theorem IS (I:eE g) {t k:Nat} {row:List bW} {e:bW} (Q:g.threads[t]? =some row) (h3:row[k]? =some e):QG g ⟨.ofNat (t+1),.ofNat k⟩=CU g t k e:=by
 have u:gf g ⟨.ofNat (t+1),.ofNat k⟩=some e:=by rw[mA,Q];exact h3
 unfold QG CU;rw[u,show xw (some e)=e from Z,show bD (⟨.ofNat (t+1),.ofNat k⟩:bV).bM 0=false from Z];cases hk:bD e.kind 3 with
 | false=>rfl
 | true=>
  obtain⟨i,E⟩:=gO_ (Dk u<|yM u);have hi:i<nV g:=(gA.1 E).1;have C:gD g i=⟨.ofNat (t+1),.ofNat k⟩:=zs_ ((jd hi).symm.trans E);have A:fc g i=e:=zs_ ((Ny hi).symm.trans (by rw[C];exact u));have F:e.kind=3:=by rw[dS] at hk;exact of_decide_eq_true hk
  have K:dq (fc g i)=true:=by rw[A];unfold dq;rw[F];rfl
  have L:bQ (fc g i)=true:=by rw[A];unfold bQ;rw[F];rfl
  obtain⟨f,hf,_,G,M,N,_⟩:=lN I hi K;have p1:=Ci I hi L;have p2:=Ci I hf M;rw[C,A] at p1;rw[G,N,C,A] at p2;show(bif bT true then false else bT (bD (tE g ⟨.ofNat (t+1),.ofNat k⟩)<|wr .i64<|Int.add (tE g<|Qm g ⟨.ofNat (t+1),.ofNat k⟩) 1))=_;rw[p1,p2];rfl
def tM (g:XG) (t k:Nat):Prop:=(jc g g.init.length t k).any (QG g)=false
theorem NN:tM g 0 0:=by
 unfold tM;refine List.any_eq_false.2 fun x hx=>?_
 unfold jc at hx;simp only[List.take_zero,kA,List.range_zero,List.map_nil,zk_,zn_] at hx;obtain⟨i,_,rfl⟩:=hx;exact Bool.false_ne_true
theorem NO {t k:Nat} {row:List bW} {e:bW} (u:eE g) (h:tM g t k) (A:g.threads[t]? =some row) (h3:row[k]? =some e) (hb:CU g t k e=false):tM g t (k+1):=by
 unfold tM at h⊢;rw[<-Dj,List.any_append,h,List.any_cons,IS u A h3,hb];rfl
theorem TF {t:Nat} {row:List bW} (h:tM g t row.length) (u:g.threads[t]? =some row):tM g (t+1) 0:=by
 unfold tM at h⊢;rw[<-N3 u];exact h
theorem NL {t:Nat} (h:tM g t 0) (u:g.threads.length<=t):cW (Ms g) 0=true:=by
 unfold Ms;unfold tM at h;rw[Fa u] at h;rw[oB,h];rfl
theorem Fe {α:Type} {p:α->Bool}:∀{l r:List α} {x:α} {b:Nat},l.any p=false->p x=true->fK p (l++x::r) b= .ofNat (b+l.length)
 | [],r,x,b,_,hx=>by show fK p (x::r) b=_;unfold fK;rw[hx];rfl
 | y::l,r,x,b,h,hx=>by
  rw[List.any_cons,Bool.or_eq_false_iff] at h;show fK p (y::(l++x::r)) b=_;unfold fK;rw[h.1];show fK p (l++x::r) (b+1)=_;rw[Fe h.2 hx,zc_,show b+1+l.length=b+(l.length+1) by omega]
theorem zi:∀{l:List (List bW)} {t s k:Nat} {row:List bW},l[t]? =some row->k<row.length->∃r,kA l s=kA (l.take t) s++((List.range k).map fun i=>(⟨.ofNat (s+t+1),.ofNat i⟩:bV))++⟨.ofNat (s+t+1),.ofNat k⟩::r
 | [],_,_,_,_,h,_=>by cases h
 | r::l,0,s,k,row,h,hk=>by
  simp only[zm_,oJ_] at h;subst h
  have u:List.range r.length=List.range k++k::(List.range (r.length-k-1)).map (fun i=>i+(k+1)):=by
   apply zf_;intro n;rcases Nat.lt_trichotomy n k with hn | hn | hn
   ·rw[gL_ (by simpa using hn),zr_ hn,zr_ oM]
   ·subst hn;rw[gR_ (by simp),zr_ hk,List.length_range,Nat.sub_self];rfl
   rw[gR_ (by simp;omega),List.length_range];obtain⟨m,rfl⟩:∃m,n=k+1+m:=⟨n-(k+1),by omega⟩;rw[show k+1+m-k=m+1 by omega,List.getElem?_cons_succ,gM_]
   by_cases hm:k+1+m<r.length
   ·rw[zr_ hm,zr_ oM];show _=some (m+(k+1));rw[Nat.add_comm]
   rw[gN_ (by simpa using hm),gN_ (by simp;omega)];rfl
  unfold kA;rw[u,List.map_append,lQ_,List.map_cons];exact⟨_,Z⟩
 | r::l,t+1,s,k,row,h,hk=>by
  obtain⟨x,hx⟩:=zi (l:=l) (t:=t) (s:=s+1) (by simpa using h) hk;refine⟨x,?_⟩;rw[List.take_succ_cons];show _++kA l (s+1)=(_++kA (l.take t) (s+1))++_++_;rw[hx,show s+1+t+1=s+(t+1)+1 by omega];simp only[lQ_]
theorem NM {t k:Nat} {row:List bW} {e:bW} (E:eE g) (h:tM g t k) (A:g.threads[t]? =some row) (h3:row[k]? =some e) (hb:CU g t k e=true):Ms g= .ofNat (jc g g.init.length t k).length:=by
 unfold Ms tM at*;obtain⟨r,C⟩:=zi (s:=0) A (gA.1 h3).1;rw[nA_] at C
 have u:jY g=jc g g.init.length t k++⟨.ofNat (t+1),.ofNat k⟩::r:=by
  unfold jY jc;rw[C];simp only[lQ_]
 rw[u,Fe h (by rw[IS E A h3];exact hb),nA_]
def Ai (n:Nat) (R:Rn):Int:=fK (fun i=>R i i) (List.range n) 0
theorem Pp {n i:Nat} {R:Rn} (hi:i<n) (h:R i i=true) (hb:∀j,j<i->R j j=false):Ai n R= .ofNat i:=by
 unfold Ai
 have:=uz (p:=fun i=>R i i) (l:=List.range n) (i:=0) (n:=i) (zr_ hi) h fun k y hk hy=>by
  rw[zr_ oM] at hy;cases hy;exact hb _ hk
 rw[nA_] at this;exact this
theorem R7 {n:Nat} {R:Rn} (hb:∀j,j<n->R j j=false):cW (Ai n R) 0=true:=by
 unfold Ai;rw[oB,List.any_eq_false.2 fun x hx=>by rw[hb x<|List.mem_range.1 hx];exact Bool.false_ne_true];rfl
theorem QX {a b:Nat} (u:a<nV g) (hb:b<nV g) (hne:a≠b) (h1:Lf g a b=true) (A:KG g b a=true):GV g=true:=by
 unfold GV;refine List.any_eq_true.2 ⟨(a,b),l6.2 ⟨u,hb,?_⟩,?_⟩
 ·unfold Tq PG;rw[h1,A];rfl
 show bT (bD (.ofNat a) (.ofNat b))=true;rw[gd,decide_eq_false hne];rfl
theorem QY (h:∀a b,a<nV g->b<nV g->a≠b->Lf g a b=true->KG g b a=false):GV g=false:=by
 unfold GV;refine List.any_eq_false.2 fun p hp he=>?_
 obtain⟨a,b⟩:=p;obtain⟨h1,u,h3⟩:=l6.1 hp;unfold Tq PG at h3;rw[bA_] at h3
 have hne:a≠b:=by
  rintro rfl;have he:bT (bD (.ofNat a) (.ofNat a))=true:=he;rw[gd,decide_eq_true Z] at he;cases he
 rw[h a b h1 u hne h3.1] at h3;exact Bool.noConfusion h3.2
end
section
variable {g:XG}
theorem yK {a b:Nat}:bD (.ofNat a) (.ofNat b)=true↔a=b:=by rw[gd];simp
def ze (g:XG) (p:Nat->Bool) (n:Nat):Bool:=bD (fc g n).kind 3 && p (gu g n).toNat
def iQ (g:XG) (p:Nat->Bool):Nat->Bool:=fun n=>p n || ze g p n
structure Ee (g:XG) (w:Nat) (p:Nat->Bool):Prop where
 at_:p w=true
 sound:∀k,k<nV g->p k=true->Sq g w k
theorem Ut {w:Nat}:Ee g w fun n=>decide (n=w):=⟨by simp,fun k _ h=>by
 have e:k=w:=by simpa using h
 subst e;exact .base⟩
theorem Sa {w:Nat} (hw:w<nV g):bN (nV g) (fun n=>decide (n=w))=2 ^ w:=by
 have:=Bn (n:=nV g) (fun _=>false) hw;rw[mf,Nat.zero_or] at this;rw[this];exact kX fun k _=>(Bool.false_or _).symm
theorem Sc (A:eE g) {w:Nat} {p:Nat->Bool} (h:Ee g w p):Ee g w (iQ g p):=by
 refine⟨by unfold iQ;rw[h.at_];rfl,fun k hk hp=>?_⟩;unfold iQ ze at hp;cases h1:p k with
 | true=>exact h.sound k hk h1
 | false=>
  rw[h1,Bool.false_or,bA_] at hp;obtain⟨f,hf,u,_⟩:=lN A hk (qF hp.1);rw[u] at hp;exact .step hk hp.1 u<|h.sound f hf hp.2
theorem Ld {p:Nat->Bool}:bN (nV g) p ||| bN (nV g) (ze g p)=bN (nV g) (iQ g p):=tU ..
theorem Le {p:Nat->Bool} (h:bN (nV g) p≠bN (nV g) (iQ g p)):xu (nV g) p<xu (nV g) (iQ g p):=by
 refine(filter_lt fun x _ hx=>by unfold iQ;rw[hx];rfl).2 ?_;refine zo_ fun u=>h (kX fun j hj=>?_)
 cases hp:p j with
 | true=>unfold iQ;rw[hp];rfl
 | false=>
  cases A:iQ g p j with
  | false=>rfl
  | true=>exact absurd ⟨j,List.mem_range.2 hj,hp,A⟩ u
theorem Sb (G:eE g) {w:Nat} {p:Nat->Bool} (hw:w<nV g) (h:Ee g w p) (u:bN (nV g) p=bN (nV g) (iQ g p)):bN (nV g) p=bN (nV g) (wc g w):=by
 refine kX fun k hk=>?_
 have A:∀{k},Sq g w k->k<nV g->p k=true:=fun I=>by
  induction I with
  | base=>exact fun _=>h.at_
  | @step i f hi C hf _ ih=>
   intro _;obtain⟨f',F,E,_⟩:=lN G hi (qF C);obtain rfl:f=f':=by rw[hf] at E;exact iJ_ E
   rw[vB u hi];unfold iQ ze;rw[C,hf,show(Int.ofNat f).toNat=f from Z,ih F];cases p i<;>rfl
 cases hb:wc g w k with
 | true=>exact A (Aj.1 hb) hk
 | false=>
  cases hp:p k with
  | false=>rfl
  | true=>rw[Aj.2<|h.sound k hk hp] at hb;cases hb
theorem yB {w:Nat}:qq g w=(bQ (fc g w) && !(bD (fc g w).order 1)):=by unfold qq;cases bQ (fc g w)<;>rfl
theorem yA {w b:Nat}:ot g w b=(dq (fc g b) && (!(bD (fc g b).order 1) && wc g w (gu g b).toNat)):=by
 unfold ot;cases dq (fc g b)<;>cases bD (fc g b).order 1<;>rfl
theorem qo {w r:Nat}:mr g w r=(uJ g r && (bD (.ofNat r) (.ofNat w) || (bD (fc g r).kind 4 && nO g r w))):=by
 unfold mr;cases uJ g r<;>cases bD (.ofNat r) (.ofNat w)<;>cases bD (fc g r).kind 4<;>rfl
def Kk (g:XG) (s:Nat->Bool) (a:Nat):Bool:=s a || (bD (fc g a).kind 4 && (List.range<|nV g).any fun b=>s b && nO g b a)
theorem IT {s:Nat->Bool} {a:Nat}:(bN (nV g) s &&& bN (nV g) (fun b=>nO g b a))≠0↔((List.range<|nV g).any fun b=>s b && nO g b a)=true:=by
 rw[Kn];constructor
 ·intro h;refine zo_ fun u=>h ?_
  rw[<-mf (nV g)];refine kX fun j hj=>?_
  cases hb:(s j && nO g j a) with
  | false=>rfl
  | true=>exact absurd (List.any_eq_true.2 ⟨j,List.mem_range.2 hj,hb⟩) u
 intro h h0;obtain⟨j,hj,hb⟩:=List.any_eq_true.1 h;rw[<-mf (nV g)] at h0;rw[vB h0<|List.mem_range.1 hj] at hb;cases hb
def ri (g:XG) (w a:Nat):Bool:=xr g a && Kk g (ot g w) a
theorem DP {w a:Nat} (C:a<nV g):ri g w a=true↔∃b,b<nV g/\ot g w b=true/\By g b a=true:=by
 have A:∀b,By g b a=(xr g a && (bD (.ofNat a) (.ofNat b) || (bD (fc g a).kind 4 && nO g b a))):=fun b=>by
  unfold By;cases xr g a<;>cases bD (.ofNat a) (.ofNat b)<;>cases bD (fc g a).kind 4<;>rfl
 unfold ri Kk;rw[bA_,Bool.or_eq_true,bA_];constructor
 ·rintro ⟨h1,h | ⟨u,h3⟩⟩
  ·exact⟨a,C,h,by rw[A,h1,yK.2 Z];rfl⟩
  obtain⟨b,hb,hc⟩:=List.any_eq_true.1 h3;rw[bA_] at hc;exact⟨b,List.mem_range.1 hb,hc.1,by rw[A,h1,u,hc.2];cases bD (.ofNat a) (.ofNat b)<;>rfl⟩
 rintro ⟨b,hb,h1,u⟩;rw[A,bA_,Bool.or_eq_true,bA_] at u;refine⟨u.1,?_⟩;rcases u.2 with h | h
 ·obtain rfl:=yK.1 h;exact .inl h1
 exact .inr ⟨h.1,List.any_eq_true.2 ⟨b,List.mem_range.2 hb,by rw[h1,h.2];rfl⟩⟩
theorem PC {w a:Nat} (h:bN (nV g) (ot g w)=0) (u:a<nV g):ri g w a=false:=by
 cases A:ri g w a with
 | false=>rfl
 | true=>
  obtain⟨b,hb,h1,_⟩:=(DP u).1 A;rw[<-mf (nV g)] at h;rw[vB h hb] at h1;cases h1
def JY (g:XG) (k:Nat):Rn:=fun r a=>(List.range k).any fun w=>qq g w && (mr g w r && ri g w a)
def A0 (g:XG) (k i:Nat):Rn:=fun r a=>JY g k r a || (decide (r<i) && (mr g k r && ri g k a))
theorem Ar {k r a:Nat}:JY g (k+1) r a=(JY g k r a || (qq g k && (mr g k r && ri g k a))):=by
 unfold JY;rw[List.range_succ,List.any_append,List.any_cons,List.any_nil,Bool.or_false]
theorem F8 {k:Nat} (h:qq g k=false):cy (nV g) (JY g (k+1))=cy (nV g) (JY g k):=dL fun r a _ _=>by rw[Ar,h];simp
theorem Pz {k:Nat} (h:bN (nV g) (ot g k)=0):cy (nV g) (JY g (k+1))=cy (nV g) (JY g k):=dL fun r a _ u=>by rw[Ar,PC h u];simp
theorem PA {k:Nat}:cy (nV g) (A0 g k 0)=cy (nV g) (JY g k):=dL fun r a _ _=>by unfold A0;simp
theorem DO {k i:Nat} (h:mr g k i=false):cy (nV g) (A0 g k (i+1))=cy (nV g) (A0 g k i):=dL fun r a _ _=>by
 unfold A0
 by_cases u:r=i
 ·subst u;rw[h];simp
 rw[show decide (r<i+1)=decide (r<i) from decide_eq_decide.2 oM]
theorem JZ {k i:Nat} (h:mr g k i=true):(cy (nV g)<|A0 g k i).set i (bN (nV g) (A0 g k i i) ||| bN (nV g) (ri g k))=cy (nV g) (A0 g k (i+1)):=by
 rw[tU,r4];refine dL fun r a _ _=>?_
 by_cases u:r=i
 ·subst u;unfold A0;simp[h]
 have:(r == i)=false:=by simpa using u
 rw[this];unfold A0;rw[show decide (r<i+1)=decide (r<i) from decide_eq_decide.2 oM];rfl
theorem Sf {k:Nat} (h:qq g k=true):cy (nV g) (A0 g k<|nV g)=cy (nV g) (JY g (k+1)):=dL fun r a u _=>by
 rw[Ar,h];unfold A0;simp[u]
theorem Se:cy (nV g) (JY g<|nV g)=cy (nV g) (xX g):=dL fun r a C u=>by
 rw[zd_,J0];unfold JY;rw[List.any_eq_true];constructor
 ·rintro ⟨w,hw,h⟩;rw[bA_,bA_] at h;obtain⟨b,hb,h1,A⟩:=(DP u).1 h.2.2;exact⟨w,b,List.mem_range.1 hw,hb,C,u,h.1,h1,h.2.1,A⟩
 rintro ⟨w,b,hw,hb,_,_,h1,A,h3,E⟩;exact⟨w,List.mem_range.2 hw,by rw[h1,h3,(DP u).2 ⟨b,hb,A,E⟩];rfl⟩
end
variable {α:Type} {ln:Nat}
section
variable {g:XG}
theorem HE {l:List α} (h:l.Nodup) {i:Nat} {a:α} (hi:l[i]? =some a) (hj:l[j]? =some a):i=j:=by
 rcases Nat.lt_trichotomy i j with hh | hh | hh
 ·exact absurd Z<|Ft h hh hi hj
 ·exact hh
 exact absurd Z<|Ft h hh hj hi
theorem LV (A:eE g) {r:List bV} (C:g.order[ln]? =some r):r.Nodup:=by
 have hf:=wZ (x:=ln) (loc:=0) C (nA_ _);have hn:(sl g.order 0).Nodup:=A.perm.nodup_iff.1 D4;have u:(jO ln r).Nodup:=by rw[<-hf];exact hn.filter _
 exact uD _ u
theorem Cb (F:eE g) {b:Nat} {r:List bV} {id:bV} (E:g.order[ln]? =some r) (hb:r[b]? =some id):∃n,n<nV g/\(jY g)[n]? =some id/\gD g n=id/\bD id.bM 0=false/\fY g n= .ofNat (b+1):=by
 obtain⟨t,k,row,e,rfl,I,h3,hw,hl⟩:=Cc F E (gB_ hb);have u:gf g ⟨.ofNat (t+1),.ofNat k⟩=some e:=by rw[mA,I];exact h3
 obtain⟨n,hn⟩:=gO_ (Dk u<|yM u);have A:n<nV g:=(gA.1 hn).1;have C:gD g n=⟨.ofNat (t+1),.ofNat k⟩:=zs_ ((jd A).symm.trans hn);have G:fc g n=e:=zs_ ((Ny A).symm.trans (by rw[C];exact u));refine⟨n,A,hn,C,Z,?_⟩;unfold fY;rw[C,G,hl,show bD (⟨.ofNat (t+1),.ofNat k⟩:bV).bM 0=false from Z];have K:vW g (.ofNat ln)=r:=by unfold vW;rw[show(Int.ofNat ln).toNat=ln from Z,E];rfl
 rw[K]
 have:=uz (p:=fun x:bV=>dv x.ints (⟨.ofNat (t+1),.ofNat k⟩:bV).ints) (l:=r) (i:=0) hb (l5.2 Z) fun q y hq hy=>by
  cases L:dv y.ints (⟨.ofNat (t+1),.ofNat k⟩:bV).ints with
  | false=>rfl
  | true=>
   rw[l5.1 L] at hy;have:=HE (LV F E) hy hb;omega
 rw[nA_] at this;show(bif cW (fK _ r 0) 0 then(-1:Int) else wr .i64 (Int.add (fK _ r 0) 1))=_;rw[this,show cW (.ofNat b) 0=false by rw[show(0:Int)= .ofNat 0 from Z,gL];simp];have hbl:=(gA.1 hb).1;have:=oE (hJ.2 F) r (gB_ E);exact a6 oM
def pS (g:XG) (a b:Nat):List bV:=(g.order.take a).flatten++((g.order[a]?).getD []).take b
open Classical in
def tF (g:XG) (a b n:Nat):Int:=bif bD (gD g n).bM 0 then 0 else if gD g n∈pS g a b then fY g n else-1
def gi (g:XG) (a b:Nat):List Int:=(List.range<|nV g).map (tF g a b)
theorem mO {a b:Nat}:(gi g a b).length=nV g:=by unfold gi;simp
theorem Cj {a b n:Nat} (h:n<nV g):(gi g a b)[n]? =some (tF g a b n):=by unfold gi;simp[h]
theorem HX (I:eE g) {a b n:Nat} {r:List bV} {id:bV} (F:g.order[a]? =some r) (hb:r[b]? =some id) (hn:n<nV g) (u:gD g n=id):(gi g a b).set n (.ofNat (b+1))=gi g a (b+1):=by
 have hbl:=(gA.1 hb).1
 have G:pS g a (b+1)=pS g a b++[id]:=by
  unfold pS;rw[F,lQ_];show _++r.take (b+1)=_++(r.take b++[id]);rw[zb_,hb];rfl
 obtain⟨n',A,_,C,K,hp⟩:=Cb I F hb;have E:n'=n:=uy (jd A) (by rw[jd hn,u,C]);subst E;refine zf_ fun k=>?_
 by_cases hk:k<nV g
 ·rw[List.getElem?_set,Cj hk,Cj hk,mO]
  by_cases he:n'=k
  ·subst he;rw[if_pos Z,if_pos hk];unfold tF;rw[G,u,K,if_pos<|List.mem_append_right _<|List.mem_singleton.2 Z,<-hp];rfl
  rw[if_neg he];unfold tF;rw[G];have hne:gD g k≠id:=fun h=>he (uy (jd A) (by rw[jd hk,h,u]))
  have:(gD g k∈pS g a b++[id])↔gD g k∈pS g a b:=by
   rw[List.mem_append,List.mem_singleton];exact⟨fun h=>h.elim (fun h=>h) fun h=>absurd h hne,.inl⟩
  by_cases hm:gD g k∈pS g a b
  ·rw[if_pos hm,if_pos<|this.2 hm]
  rw[if_neg hm,if_neg fun h=>hm (this.1 h)]
 rw[gN_ (by rw[zg_,mO];omega),gN_ (by rw[mO];omega)]
theorem L5 {a:Nat} {r:List bV} (u:g.order[a]? =some r):pS g a r.length=pS g (a+1) 0:=by
 unfold pS;rw[u,List.take_zero,zk_,zb_,u];show _++r.take r.length=_;rw[List.take_length];simp
theorem FF {a:Nat} {r:List bV} (u:g.order[a]? =some r):gi g a r.length=gi g (a+1) 0:=by
 unfold gi tF;rw[L5 u]
theorem HW:gi g 0 0=(List.range<|nV g).map fun n=>bif bD (gD g n).bM 0 then(0:Int) else-1:=by
 unfold gi;refine List.map_congr_left fun n _=>?_
 unfold tF pS;simp
theorem HV (E:eE g) {a:Nat} (F:g.order.length<=a):gi g a 0=(List.range<|nV g).map (fY g):=by
 unfold gi;refine List.map_congr_left fun n hn=>?_
 have hn:=List.mem_range.1 hn;unfold tF pS;rw[List.take_zero,zk_,tL_ F];rcases lg hn with ⟨x,v,h1,_⟩ | ⟨t,k,row,e,h1,G,h3,I⟩
 ·unfold fY;rw[h1];rfl
 rw[show bD (gD g n).bM 0=false by rw[h1];rfl,cond_false]
 by_cases hm:gD g n∈g.order.flatten
 ·rw[if_pos hm]
 rw[if_neg hm];rcases qQ E hn with ⟨hw,_⟩ | ⟨_,hp⟩
 ·have u:bQ e=true:=by rw[<-I];exact hw
  have A:((⟨.ofNat (t+1),.ofNat k⟩:bV).ints,e.loc)∈jz g.threads 0:=oV.2 ⟨t,k,row,e,G,h3,u,by rw[nA_];rfl,Z⟩;obtain⟨ln,r,id,K,L,M,k4⟩:=oD.1 (E.perm.mem_iff.1 A);have C:id=gD g n:=by rw[h1];exact(qE M).symm
  exact absurd (List.mem_flatten.2 ⟨r,gB_ K,by rw[<-C];exact L⟩) hm
 exact hp.symm
theorem NR (u:eE g) {n:Nat} (hn:n<nV g) (A:dq (fc g n)=true):∃f,f<nV g/\gu g n= .ofNat f/\(jY g)[f]? =some (Qm g<|gD g n):=by
 obtain⟨f,h1,C,h3,_⟩:=lN u hn A;exact⟨f,h1,C,by rw[jd h1,h3]⟩
theorem tu {n:Nat} (u:dq (fc g n)=false):gu g n= -1:=by unfold gu;rw[u];rfl
theorem EY {n:Nat} (hn:n<nV g) (h:bD (gD g n).bM 0=true):dq (fc g n)=false:=by
 rcases lg hn with ⟨x,v,_,_,h3⟩ | ⟨t,k,_,_,h1,_⟩
 ·rw[h3];rfl
 rw[h1] at h;exact Bool.noConfusion (show false=true from h)
end
variable {G:Cx} {K:KP} {V:D} {L:Own} {g:XG} {q:Nat} {T X fv iv pv:Y}
structure lH (K:KP) (g:XG) (b:Nat) (iv ev fv pv:Y):Prop where
 row:K b (.row [iv,ev,fv,pv] 243 false)
 ids:bG K 2 fj (jY g) iv
 mB:bG K 5 iN (NI g) ev
 from_:bG K 1 dB ((List.range<|nV g).map<|gu g) fv
 place:bG K 1 dB ((List.range<|nV g).map<|fY g) pv
theorem lH.mono {K K':KP} {b:Nat} {iv ev fv pv:Y} (h:lH K g b iv ev fv pv) (hk:KP.le K K'):lH K' g b iv ev fv pv:=⟨hk _ _ h.row,h.ids.mono hk fun _ _ h=>h,h.mB.mono hk fun _ _ h=>h,h.from_.mono hk fun _ _ h=>h,h.place.mono hk fun _ _ h=>h⟩
theorem qZ {n i:Nat} {f:Nat->Int} (h:i<n):((List.range n).map f)[i]? =some (f i):=by simp[h]
theorem FA (R:Plain G) {b:Nat} {ev W:Y} (u:K b (.row [T,ev,W,X] 243 false)) (A:bG K 5 iN (NI g) ev) {i:Nat} (hi:i<nV g) (O:H V K L):
  Ca G K L 183 [.ptr b 0,nI i] V <| .bool (dq<|fc g i):=by
 refine XD R Tryz.func183 Z<|Xb 8 Z<|S Z (cV Z) Z<|S Z (Yv 1 Z) Z<|S Z (Yw Z (O.bJ u) Z) Z<|vQ 1 Z<|Yp (e:=40) (m:=5) A (lu hi) Z Z Z Z (fun ao aa E ab F=>?_);obtain rfl:=F;refine bU E Z Z Z (k:=0) B (lb Z) (fun _=>Z) (fun ap I=>?_);refine S Z (Yz O I Z Z) Z<|vQ 1 Z<|ky Z (an Z) (fun C=>?_) (fun C=>?_)
 ·refine Xf 14 Z ?_;exact az Z Z ⟨cB (by unfold dq;simp only[C,ct,cf]<;>rfl),O⟩
 refine vQ 1 Z<|S Z (cV Z) Z<|S Z (Yv 1 Z) Z<|S Z (Yw Z (O.bJ u) Z) Z<|vQ 1 Z<|Yp (e:=40) (m:=5) A (lu hi) Z Z Z Z (fun aq ac M am N=>?_);obtain rfl:=N;refine bU M Z Z Z (k:=0) B (lb Z) (fun _=>Z) (fun ar Q=>?_);refine S Z (Yz O Q Z Z) Z<|Xf 6 Z ?_;exact az Z Z ⟨cB (by unfold dq;simp only[C,ct,cf]<;>rfl),O⟩
theorem RH (A:Plain G) {b:Nat} {ev:Y} (hv:lH K g b iv ev fv pv) {i:Nat} (hi:i<nV g) (O:H V K L):
  EC G 183 [.ptr b 0,nI i] V fun u V'=>u= .bool (dq<|fc g i)/\H V' K L:=FA A hv.row hv.mB hi O
theorem ON (N:Plain G) {b:Nat} {ev:Y} (hv:lH K g b iv ev fv pv) {i:Nat} (hi:i<nV g) (O:H V K L):
  Ca G K L 188 [.ptr b 0,nI i] V <| .bool (bQ<|fc g i):=by
 refine XD N Tryz.func188 Z<|Xb 8 Z<|S Z (cV Z) Z<|S Z (Yv 1 Z) Z<|S Z (Yw Z (O.bJ hv.row) Z) Z<|vQ 1 Z<|Yp (e:=40) (m:=5) hv.mB (lu hi) Z Z Z Z (fun ao aa A ab C=>?_);obtain rfl:=C;refine bU A Z Z Z (k:=0) B (lb Z) (fun _=>Z) (fun ap E=>?_);refine S Z (Yz O E Z Z) Z<|vQ 1 Z<|ky Z (an Z) (fun u=>?_) (fun u=>?_)
 ·refine Xf 14 Z ?_;exact az Z Z ⟨cB (by unfold bQ;simp only[u,ct,cf]<;>rfl),O⟩
 refine vQ 1 Z<|S Z (cV Z) Z<|S Z (Yv 1 Z) Z<|S Z (Yw Z (O.bJ hv.row) Z) Z<|vQ 1 Z<|Yp (e:=40) (m:=5) hv.mB (lu hi) Z Z Z Z (fun aq ac F am I=>?_);obtain rfl:=I;refine bU F Z Z Z (k:=0) B (lb Z) (fun _=>Z) (fun ar M=>?_);refine S Z (Yz O M Z Z) Z<|Xf 6 Z ?_;exact az Z Z ⟨cB (by unfold bQ;simp only[u,ct,cf]<;>rfl),O⟩
theorem xS (E:Plain G) {b:Nat} {ev:Y} (hv:lH K g b iv ev fv pv) {i:Nat} (hi:i<nV g) (O:H V K L):
  Ca G K L 196 [.ptr b 0,nI i] V <| .bool (bD (fc g i).kind 4):=by
 refine XD E Tryz.func196 Z<|Xb 8 Z<|S Z (cV Z) Z<|S Z (Yv 1 Z) Z<|S Z (Yw Z (O.bJ hv.row) Z) Z<|vQ 1 Z<|Yp (e:=40) (m:=5) hv.mB (lu hi) Z Z Z Z (fun ac aa u ab A=>?_);obtain rfl:=A;refine bU u Z Z Z (k:=0) B (lb Z) (fun _=>Z) (fun am C=>?_);refine S Z (Yz O C Z Z) Z<|Xf 5 Z ?_;exact az Z Z ⟨cB (Z),O⟩
theorem HL (M:Plain G) {b:Nat} {ev:Y} (hv:lH K g b iv ev fv pv) {i:Nat} (hi:i<nV g) (O:H V K L):
  Ca G K L 193 [.ptr b 0,nI i] V <| .bool (xr g i):=by
 refine XD M Tryz.func193 Z<|Wi 9 Z<|S Z (cV Z) Z<|S Z (Yv 1 Z) Z<|S Z (Yw Z (O.bJ hv.row) Z) Z<|vQ 1 Z<|Yp (e:=40) (m:=5) hv.mB (lu hi) Z Z Z Z (fun ac aa E ab F=>?_);obtain rfl:=F;refine bU E Z Z Z (k:=2) B (lb Z) (fun _=>Z) (fun am I=>?_);refine S Z (Yz O I Z Z) Z<|Wm 3 Z<|Wi 3 Z<|ky Z (aB Z Z Z) (fun u=>?_) (fun u=>?_)
 ·refine Wq 13 Z<|aI<|aA (?_);exact az Z Z ⟨cB (by unfold xr;simp only[u,ct,cf]<;>rfl),O⟩
 refine Wo 6 Z<|ky Z (aB Z Z Z) (fun A=>?_) (fun A=>?_)
 ·refine Wq 13 Z<|aI<|aA (?_);exact az Z Z ⟨cB (by unfold xr;simp only[u,A,ct,cf]<;>rfl),O⟩
 refine Xe 5 Z<|ky Z (aB Z Z Z) (fun C=>?_) (fun C=>?_)
 ·refine Xf 10 Z<|aI<|aA (?_);exact az Z Z ⟨cB (by unfold xr;simp only[u,A,C,ct,cf]<;>rfl),O⟩
 refine Wp 6 Z<|XN 6 Z ?_;exact az Z Z ⟨cB (by unfold xr;simp only[u,A,C,ct,cf]<;>rfl),O⟩
theorem HM (M:Plain G) {b:Nat} {ev:Y} (hv:lH K g b iv ev fv pv) {i:Nat} (hi:i<nV g) (O:H V K L):
  Ca G K L 195 [.ptr b 0,nI i] V <| .bool (uJ g i):=by
 refine XD M Tryz.func195 Z<|Wi 9 Z<|S Z (cV Z) Z<|S Z (Yv 1 Z) Z<|S Z (Yw Z (O.bJ hv.row) Z) Z<|vQ 1 Z<|Yp (e:=40) (m:=5) hv.mB (lu hi) Z Z Z Z (fun ac aa E ab F=>?_);obtain rfl:=F;refine bU E Z Z Z (k:=2) B (lb Z) (fun _=>Z) (fun am I=>?_);refine S Z (Yz O I Z Z) Z<|Wm 3 Z<|Wi 3 Z<|ky Z (aB Z Z Z) (fun u=>?_) (fun u=>?_)
 ·refine Wq 13 Z<|aI<|aA (?_);exact az Z Z ⟨cB (by unfold uJ;simp only[u,ct,cf]<;>rfl),O⟩
 refine Wo 6 Z<|ky Z (aB Z Z Z) (fun A=>?_) (fun A=>?_)
 ·refine Wq 13 Z<|aI<|aA (?_);exact az Z Z ⟨cB (by unfold uJ;simp only[u,A,ct,cf]<;>rfl),O⟩
 refine Xe 5 Z<|ky Z (aB Z Z Z) (fun C=>?_) (fun C=>?_)
 ·refine Xf 10 Z<|aI<|aA (?_);exact az Z Z ⟨cB (by unfold uJ;simp only[u,A,C,ct,cf]<;>rfl),O⟩
 refine Wp 6 Z<|XN 6 Z ?_;exact az Z Z ⟨cB (by unfold uJ;simp only[u,A,C,ct,cf]<;>rfl),O⟩
theorem OJ (Q:Plain G) {b:Nat} {ev:Y} (hv:lH K g b iv ev fv pv) {i:Nat} (hi:i<nV g) (hq:q<nV g) (O:H V K L):
  Ca G K L 185 [.ptr b 0,nI i,nI q] V <| .bool (sK g i q):=by
 refine XD Q Tryz.func185 Z<|Xa 6 Z<|aU (l:=zp [0,1,2,3,4,5,6,7,8,9,10,11,12,13,14,15,16,17,18,19,20,21,22,23,24,25,26,27,28,29]) B B<|XQ 2 Z<|dO Z Z (Yu Z Z Z) (fun _=>Z) (xS Q hv hi O) (fun V O=>?_);refine⟨aY,?_⟩;refine ah Z Z (ek Z) Z<|gO Z Z (an Z) (fun _=>Z) (fun u=>?_) (fun u=>?_)
 ·refine XQ 2 Z<|dO Z Z (Yu Z Z Z) (fun _=>Z) (xS Q hv hq O) (fun V O=>?_);refine⟨aY,?_⟩;refine ah Z Z (ek Z) Z<|wQ 1 Z<|gO Z Z (an Z) (fun _=>Z) (fun A=>?_) (fun A=>?_)
  ·refine wQ 1 Z<|ah Z Z (cV Z) Z<|ah Z Z (Yv 1 Z) Z<|ah Z Z (Yw Z (O.bJ hv.row) Z) Z<|wQ 1 Z<|Yq (e:=40) (m:=5) hv.mB (lu hi) Z Z Z Z Z (fun ao aa C ab E=>?_);obtain rfl:=E;refine fb C Z Z Z Z (k:=1) B (lb Z) (fun _=>Z) (fun ap F=>?_);refine ah Z Z (Yz O F Z Z) Z<|wQ 1 Z<|ah Z Z (cV Z) Z<|ah Z Z (Yv 1 Z) Z<|ah Z Z (Yw Z (O.bJ hv.row) Z) Z<|wQ 1 Z<|Yq (e:=40) (m:=5) hv.mB (lu hq) Z Z Z Z Z (fun aq ac I am M=>?_);obtain rfl:=M;refine fb I Z Z Z Z (k:=1) B (lb Z) (fun _=>Z) (fun ar N=>?_);refine ah Z Z (Yz O N Z Z) Z<|Xh 6 Z ?_;exact az Z Z ⟨cB (by unfold sK;rw[show bD (fc g i).kind 4=false from eb u,show bD (fc g q).kind 4=false from eb A];rfl),O⟩
  refine Xh 22 Z ?_;exact az Z Z ⟨cB (by unfold sK;rw[show bD (fc g i).kind 4=false from eb u,show bD (fc g q).kind 4=true from dg A];rfl),O⟩
 refine Xh 28 Z ?_;exact az Z Z ⟨cB (by unfold sK;rw[show bD (fc g i).kind 4=true from dg u];rfl),O⟩
theorem Ug (N:Plain G) {b:Nat} {ev:Y} (hv:lH K g b iv ev fv pv) {i:Nat} (hi:i<nV g) (hq:q<nV g) (O:H V K L):
  Ca G K L 164 [.ptr b 0,nI i,nI q] V <| .bool (nO g i q):=by
 refine XD N Tryz.func164 Z (Xa 6 Z (aU (l:=[(0,[]),(1,[]),(2,[]),(3,[]),(4,[]),(5,[]),(6,[]),(7,[]),(8,[]),(9,[]),(10,[]),(11,[]),(12,[]),(13,[]),(14,[]),(15,[]),(16,[10,13]),(17,[])]) B B<|wQ 1 Z<|ah Z Z (cV Z) Z<|ah Z Z (Yv 0 Z) Z<|ah Z Z (Yw Z (O.bJ hv.row) Z) Z<|wQ 1 Z<|Yq (e:=89) (m:=2) hv.ids (jd hi) Z Z Z Z Z (fun ao aa F ab I=>?_)));obtain rfl:=I;refine ah Z Z (YA O F Z Z) Z<|wQ 1 Z<|ah Z Z (cV Z) Z<|ah Z Z (Yv 0 Z) Z<|ah Z Z (Yw Z (O.bJ hv.row) Z) Z<|wQ 1 Z<|Yq (e:=89) (m:=2) hv.ids (jd hq) Z Z Z Z Z (fun ap ac C am M=>?_);obtain rfl:=M;refine ah Z Z (YA O C Z Z) Z<|w6 O Z Z (Yy (cs:=[iZ,iZ])) (fun _=>Z) (fun V b1 O=>?_);refine w6 O Z Z (Yy (cs:=[iZ,iZ])) (fun _=>Z) (fun V b2 O=>?_);refine HO O Z Z (YB Z Z Z O.g1 Z) Z (fun V O=>?_);refine⟨(bx (bC Z Z Z Z Z (Yw Z (O.bJ hv.row) Z) hv.ids.dV)<|bx (bC Z Z Z Z Z (YA O C Z Z)<|qe<|ey (im _ _)<|ey (im _ _) qg) aY),?_⟩;refine pB O Z Z (YB Z Z Z O.g0 Z) Z (fun V O=>?_);refine⟨aY,?_⟩;refine Xg 2 Z<|Xb 2 Z<|XS O 3 [0,0] Z Z<|ky Z (an Z) (fun u=>?_) (fun u=>?_)
 ·refine XS O 3 [0,1] Z Z<|ky Z (an Z) (fun A=>?_) (fun A=>?_)
  ·refine Xf 18 Z ?_;exact az Z Z ⟨cB (by rw[<-Wh hi hq,show bD (gD g q).bM 0=false from eb u,show bD (gD g i).bM 0=true from A];rfl),O.pop.pop⟩
  refine XS O 5 [0,1,0,0] Z Z<|ky Z (an Z) (fun E=>?_) (fun E=>?_)
  ·refine Xi O 12 [1,1,1,0] Z Z ?_;exact az Z Z ⟨cB (by rw[<-Wh hi hq,show bD (gD g q).bM 0=false from eb u,show bD (gD g i).bM 0=false from A,show bD (gD g i).bM (gD g q).bM=true from E];rfl),O.pop.pop⟩
  refine Xf 12 Z ?_;exact az Z Z ⟨cB (by rw[<-Wh hi hq,show bD (gD g q).bM 0=false from eb u,show bD (gD g i).bM 0=false from A,show bD (gD g i).bM (gD g q).bM=false from E];rfl),O.pop.pop⟩
 refine Xf 22 Z ?_;exact az Z Z ⟨cB (by rw[<-Wh hi hq,show bD (gD g q).bM 0=true from dg u];rfl),O.pop.pop⟩
theorem W8 (C:Plain G) {b:Nat} {ev:Y} (hv:lH K g b iv ev fv pv) {i:Nat} (hi:i<nV g) (hq:q<nV g) (O:H V K L):
  Ca G K L 165 [.ptr b 0,nI i,nI q] V <| .bool (vp g i q):=by
 refine XD C Tryz.func165 Z<|Xb 8 Z<|S Z (cV Z) Z<|S Z (Yv 2 Z) Z<|S Z (Yw Z (O.bJ hv.row) Z) Z<|vQ 1 Z<|Yp (e:=3) (m:=1) hv.from_ (qZ hq) Z Z Z Z (fun ac aa u ab A=>?_);obtain rfl:=A;refine S Z (Yz O u Z Z) Z<|Xf 6 Z ?_;exact az Z Z ⟨cB (Z),O⟩
theorem Vw (R:Plain G) {b:Nat} {ev:Y} (hv:lH K g b iv ev fv pv) (Q:eE g) {i:Nat} (hi:i<nV g) (hq:q<nV g) (O:H V K L):
  Ca G K L 166 [.ptr b 0,nI i,nI q] V <| .bool (xJ g i q):=by
 refine XD R Tryz.func166 Z<|Xa 6 Z<|aU (l:=zp [0,1,2,3,4,5,6,7,8,9,10,11,12,13,14,15,16,17,18,19,20,21,22,23,24,25,26,27,28,29,30,31]) B B<|wQ 1 Z<|ah Z Z (cV Z) Z<|ah Z Z (Yv 3 Z) Z<|ah Z Z (Yw Z (O.bJ hv.row) Z) Z<|wQ 1 Z<|Yq (e:=3) (m:=1) hv.place (qZ hi) Z Z Z Z Z (fun aq aa C ab E=>?_);obtain rfl:=E;refine ah Z Z (Yz O C Z Z) Z<|wQ 1 Z<|gO Z Z (an Z) (fun _=>Z) (fun u=>?_) (fun u=>?_)
 ·refine XQ 3 Z<|dO Z Z (Yu Z Z Z) (fun _=>Z) (OJ R hv hi hq O) (fun V O=>?_);refine⟨aY,?_⟩;refine wQ 1 Z<|gO Z Z (an Z) (fun _=>Z) (fun A=>?_) (fun A=>?_)
  ·refine wQ 1 Z<|ah Z Z (cV Z) Z<|ah Z Z (Yv 3 Z) Z<|ah Z Z (Yw Z (O.bJ hv.row) Z) Z<|wQ 1 Z<|Yq (e:=3) (m:=1) hv.place (qZ hi) Z Z Z Z Z (fun ar ac F am I=>?_);obtain rfl:=I;refine ah Z Z (Yz O F Z Z) Z<|wQ 1 Z<|ah Z Z (cV Z) Z<|ah Z Z (Yv 3 Z) Z<|ah Z Z (Yw Z (O.bJ hv.row) Z) Z<|wQ 1 Z<|Yq (e:=3) (m:=1) hv.place (qZ hq) Z Z Z Z Z (fun ax ao M ap N=>?_);obtain rfl:=N;refine ah Z Z (Yz O M Z Z) Z<|Xh 6 Z ?_;exact az Z Z ⟨cB (by rw[<-WM Q hi hq,show cW (fY g i) 0=false from eb u,show sK g i q=true from A];rfl),O⟩
  refine Xh 20 Z ?_;exact az Z Z ⟨cB (by rw[<-WM Q hi hq,show cW (fY g i) 0=false from eb u,show sK g i q=false from A];rfl),O⟩
 refine Xh 26 Z ?_;exact az Z Z ⟨cB (by rw[<-WM Q hi hq,show cW (fY g i) 0=true from dg u];rfl),O⟩
theorem W7 (T:Plain G) {b:Nat} {ev:Y} (hv:lH K g b iv ev fv pv) (C:eE g) {i:Nat} (hi:i<nV g) (hq:q<nV g) (O:H V K L):
  Ca G K L 167 [.ptr b 0,nI i,nI q] V <| .bool (AF g i q):=by
 refine XD T Tryz.func167 Z<|Xb 10 Z<|ky Z (an Z) (fun A=>?_) (fun A=>?_)
 ·refine vQ 1 Z<|S Z (cV Z) Z<|S Z (Yv 2 Z) Z<|S Z (Yw Z (O.bJ hv.row) Z) Z<|vQ 1 Z<|Yp (e:=3) (m:=1) hv.from_ (qZ hi) Z Z Z Z (fun ao aa E ab F=>?_);obtain rfl:=F;refine S Z (Yz O E Z Z) Z<|XP 2 Z<|ky Z (an Z) (fun u=>?_) (fun u=>?_)
  ·refine XP 2 Z<|S Z (cV Z) Z<|S Z (Yv 2 Z) Z<|S Z (Yw Z (O.bJ hv.row) Z) Z<|vQ 1 Z<|Yp (e:=3) (m:=1) hv.from_ (qZ hi) Z Z Z Z (fun ap ac I am M=>?_);obtain rfl:=M;refine S Z (Yz O I Z Z) Z<|vQ 1 Z ?_
   obtain⟨f,R,N⟩:∃f,f<nV g/\gu g i= .ofNat f:=by
    cases Q:dq (fc g i) with
    | true=>obtain⟨f,h1,W,_⟩:=lN C hi Q;exact⟨f,h1,W⟩
    | false=>rw[tu Q] at u;exact Bool.noConfusion (show false=true from u)
   refine kx (Yu Z Z Z) (by rw[N];exact Vw T hv C R hq O) (fun V O=>?_);refine Xf 5 Z ?_;exact az Z Z ⟨cB (by rw[<-WY C hi hq,show bD (.ofNat i) (.ofNat q)=false from eb A,show cW (gu g i) 0=false from eb u,N];rfl),O⟩
  refine Xf 15 Z ?_;exact az Z Z ⟨cB (by rw[<-WY C hi hq,show bD (.ofNat i) (.ofNat q)=false from eb A,show cW (gu g i) 0=true from dg u];rfl),O⟩
 refine Xf 25 Z ?_;exact az Z Z ⟨cB (by rw[<-WY C hi hq,show bD (.ofNat i) (.ofNat q)=true from dg A];rfl),O⟩
theorem Vx (A:Plain G) {b:Nat} {ev:Y} (hv:lH K g b iv ev fv pv) {i:Nat} (hi:i<nV g) (hq:q<nV g) (O:H V K L):
  Ca G K L 169 [.ptr b 0,nI i,nI q] V <| .bool (Lw g i q):=by
 refine XD A Tryz.func169 Z<|Xb 10 Z<|ky Z (an Z) (fun u=>?_) (fun u=>?_)
 ·refine XP 3 Z<|kx (Yu Z Z Z) (OJ A hv hi hq O) (fun V O=>?_);refine Xf 5 Z ?_;exact az Z Z ⟨cB (by rw[<-Vo,show bD (.ofNat i) (.ofNat q)=false from eb u];rfl),O⟩
 refine Xf 9 Z ?_;exact az Z Z ⟨cB (by rw[<-Vo,show bD (.ofNat i) (.ofNat q)=true from dg u];rfl),O⟩
variable {cl:Call} {kk:IntKind} {e:Nat} {so:Operand} {va:Y}
theorem xf {P:Program} {k:Bool} {ty:TypeId} {x:Nat} (h:j<64):pV P k .shr ty (.int .u64 (.ofNat x)) (.int kk (.ofNat j))=some (.int .u64 (.ofNat (x/2 ^ j))):=by
 have e1:min (Int.toNat (.ofNat j)) 64=j:=by show min j 64=j;omega
 have:Int.fdiv (.ofNat x) (2 ^ min (Int.toNat (.ofNat j)) 64)= .ofNat (x/2 ^ j):=by
  rw[e1,Dw];show Int.fdiv ((x:Nat):Int) ((2 ^ j:Nat):Int)=_;rw[Int.fdiv_eq_ediv_of_nonneg _<|Int.natCast_nonneg _];rfl
 cases k<;>exact congrArg (fun z=>some (Y.int .u64 z)) this
theorem Ty {x:Nat}:(bif bD (.ofNat (x/2 ^ j &&& 1)) 0 then false else true)=x.testBit j:=by
 show(bif bD (.ofNat (x/2 ^ j &&& 1)) (.ofNat 0) then false else true)=(1 &&& (x >>> j) !=0);rw[gd,Nat.shiftRight_eq_div_pow,Nat.and_comm 1];cases h:decide (x/2 ^ j &&& 1=0) with
 | true=>rw[of_decide_eq_true h];rfl
 | false=>
  have h1:=of_decide_eq_false h;rw[Nat.and_one_is_mod] at h1⊢;have u:x/2 ^ j%2=1:=by omega
  rw[u];rfl
theorem Gb {P:Program} {k:Bool} {ty:TypeId} {x:Nat}:pV P k .neq ty (.int .u64 (.ofNat (x/2 ^ j &&& 1))) (.int .u64 0)=some (.bool<|x.testBit j):=by
 rw[<-Ty];cases k<;>rfl
theorem gK {n i:Nat} {p:Nat->Bool} (h:i<n):(bN n p).testBit i=p i:=by rw[fe,decide_eq_true h,zp_]
theorem Sy {n k i:Nat} {R:Rn} (h:ik R k i i k=true):(cy n<|ik R k i).set i (bN n (ik R k i i) ||| bN n (ik R k i k))=cy n (ik R k (i+1)):=by
 rw[tU,r4];refine dL fun a b _ _=>?_
 rw[CC]
 by_cases e:a=i
 ·subst e;rw[beq_self_eq_true,decide_eq_true Z,h];simp
 rw[decide_eq_false e,show(a == i)=false by simpa using e];rfl
theorem UK {n k i:Nat} {R:Rn} (h:ik R k i i k=false):cy n (ik R k i)=cy n (ik R k (i+1)):=by
 refine dL fun a b _ _=>?_
 rw[CC]
 by_cases e:a=i
 ·subst e;rw[decide_eq_true Z,h];simp
 rw[decide_eq_false e];rfl
section
variable {P:Program} {G:Cx} {K:KP} {L:Own} {n:Nat} {t:PT Y} {V:D} {ops:Array Oper} {o:Oper} {Q:Ex->PT Y->D->Prop}
theorem SJ {ds:Operand} {ty b:Nat} {c:oY} {v:Y} {m:Nat} {news:List Y} (hc:cl.callee= .builtin .copy) (E:cl.args.toList= [ds,so]) (F:cl.argTypes[0]? =some ty) (hu:P.underlying ty=some (.slice e)) (hj:(P.info? e).map (·.size)=some 1)
  (I:bA G t ds=some (.slice b 0 0 c)) (M:bA G t so=some v) (u:lV V 1 v=some (m,news)):dM P G (bA G t) V (.call cl)= .val (iZ) V:=by
 refine jV (by simp[kindOf,hc]) ?_;obtain⟨j,A,C⟩:=oM_.1 hj
 have he:mB (bA G t) [ds,so]=some [.slice b 0 0 c,v]:=by
  unfold mB cX;simp only[I,M]
 simp only[fX,hc,E,he,wG,F,hu,A,C,u,Nat.min_zero,show Nat.beq 0 0=true from Z,ct]
theorem Rt {lo:List Oper} {x:Nat×cd} {ds:Operand} {ty b e':Nat} {c:oY} {v:Y} {cells:List Y} {l:List Nat} {t':Y->PT Y} (A:H V K (x::(b,.row cells e' false)::L)) (h:bG K 1 RU l v) (hlen:cells.length=l.length) (hw:bH ops t o=some true) (E:o.op= .call cl) (hc:cl.callee= .builtin .copy) (F:cl.args.toList= [ds,so])
  (I:cl.argTypes[0]? =some ty) (M:bA G t ds=some (.slice b 0 l.length c)) (u:bA G t so=some v) (hp:∀v,dA t n o.dst v=some (t' v)) (hh:∀V',H V' K (x::(b,.row (l.map gU) e' false)::L)->bL P G ops n lo (t'<|nI l.length) V' Q)
  (hu:P.underlying ty=some (.slice e)) (hj:(P.info? e).map (·.size)=some 1):bL P G ops n (o::lo) t V Q:=by
 obtain⟨news,h1,R,h3,T⟩:=oN A h (fun x vs W=>by obtain rfl:=W;rfl)
 have hn:news=l.map gU:=by
  refine zf_ fun i=>?_
  by_cases hi:i<l.length
  ·have h5:=T i l[i] (gC hi);have N:((news.drop (i*1)).take 1)= [gU l[i]]:=h5;rw[Nat.mul_one] at N;have h7:=congrArg (fun z=>z[0]?) N;simp only[List.getElem?_take,List.getElem?_drop] at h7;simp at h7;rw[gM_,gC hi];simpa using h7
  rw[gN_ (by rw[R];omega),gN_ (by rw[lM_];omega)]
 subst hn;rcases Nat.eq_zero_or_pos l.length with h0 | h0
 ·have hl:l= []:=List.length_eq_zero_iff.1 h0;subst hl;have C:cells= []:=List.length_eq_zero_iff.1 hlen;subst C;exact S hw (by rw[E];exact SJ hc F I hu hj M u h1) (hp _)<|hh _ A
 exact S hw (by rw[E];exact UN (cells':=l.map gU) hc F I hu hj M u h1 (Nat.min_self _) h0 (A.get 1 Z) (by rw[tL_ (by rw[lM_];omega)];exact h3) (nR_ _) (by rw[tL_ (by rw[lM_];omega),lM_];omega) (by
  rw[tL_ (by rw[lM_];omega),ju _ _ _ (by rw[lM_];omega),List.take_zero,List.nil_append,List.drop_eq_nil_of_le (by rw[lM_];omega),zk_])) (hp _) (hh _<|A.Wv (.there .here))
end
theorem W6 (hG:Plain G) {n:Nat} (hn:n<64) {l:List (Nat×Nat)} {v:Y} (X:bG K 2 RP l v) (aa:∀p∈l,p.1<n/\p.2<n) (O:H V K L):
  EC G 184 [nI n,v] V fun u V'=>∃b,u= .agg [nI n,.slice b 0 n (.known n)]/\H V' K ((b,.row ((cy n<|Gv l).map gU) 138 false)::L):=by
 refine XD hG Tryz.func184 Z<|Xb 2 Z<|kb O (Yy (cs:=[iZ,.aw])) (fun V b1 O=>?_);refine Wo 5 Z<|kw (Yu Z Z Z) (HK hG hn O) ?_;rintro _ V ⟨b2,rfl,O⟩;refine kb O (Yy (cs:=[iZ,.aw])) (fun V b3 O=>?_);refine ks O (YB Z Z Z O.g0 Z) (fun V O=>?_);refine VE 6 Z<|S Z (Yx X Z Z Z (e:=247) Z) Z ?_;rw[show cy n (fun _ _=>false)=cy n (Gv<|l.take 0) from dL fun a b _ _=>by unfold Gv;simp] at O;refine Wm 4 Z (bq ([7]++rg 12 39) (fun j t V=>∃(k:Nat),j+k=l.length/\t.get 12=some (nI k)/\H V K ((b3,.row [nI n,.slice b2 0 n (.known n)] 165 false)::(b2,.row ((cy n<|Gv<|l.take k).map gU) 138 false)::(b1,.row [iZ,.aw] 165 false)::L)) (l.length) ⟨0,Z,Z,O⟩ ?_);clear O;intro j3 t V ar hI;obtain⟨k,ap,F,O⟩:=hI;obtain⟨oo,rfl⟩:=ar.q1 F Z;refine Xa 6 Z<|aG Z (fun A=>?_) (fun A=>?_)
 ·refine UY 6 Z ?_;obtain⟨⟨pa,pb⟩,E,aq⟩:=dh A;obtain⟨C,ab⟩:pa<n/\pb<n:=aa _ (gB_ E);refine Yp (e:=247) (m:=2) X E Z Z Z Z (fun ax am I ao M=>?_);obtain rfl:=M;refine S Z (YA O I Z Z) Z<|kb O (Yy (cs:=[iZ,iZ])) (fun V b4 O=>?_);refine ks O (YB Z Z Z O.g0 Z) (fun V O=>?_);refine Wo 4 Z<|S Z (lk (e:=3) (m:=1) (n:=2) (j:=0) B B Z Z (by decide)) Z<|XS O 2 [0] Z Z<|ky Z (an Z) (fun N=>?_) (fun N=>?_)
  ·refine S Z (lk (e:=3) (m:=1) (n:=2) (j:=0) B B Z Z (by decide)) Z<|XS O 5 [0,0,1] Z Z<|ky Z (an Z) (fun R=>?_) (fun R=>?_)
   ·refine S Z (lk (e:=3) (m:=1) (n:=2) (j:=1) B B Z Z (by decide)) Z<|XS O 3 [0] Z Z<|ky Z (an Z) (fun T=>?_) (fun T=>?_)
    ·refine S Z (lk (e:=3) (m:=1) (n:=2) (j:=1) B B Z Z (by decide)) Z<|XS O 5 [0,0,1] Z Z<|Xd 2 Z<|aG Z (fun W=>?_) (fun W=>?_)
     ·refine aU (l:=zp [0,1,2,3,4,5,6,7,8,9,10,11,12]) B B (XT O 2 [1,1] Z Z (ah Z Z (lk (e:=3) (m:=1) (n:=2) (j:=0) B B Z Z (by decide)) Z (ah Z Z (Yw Z O.g0 Z) Z (ah Z Z (dP (e:=138) (m:=1) B B Z Z C) Z (ah Z Z (av Z (O.get 2 Z) B<|gM (fG C) (by first | omega | rfl)) Z (ah Z Z (lk (e:=3) (m:=1) (n:=2) (j:=1) B B Z Z (by decide)) Z (ah Z Z (Yw Z O.g0 Z) Z (ah Z Z (lY (j:=pb) oM B B B Z) Z (ah Z Z (aB (v:=.int .u64 (.ofNat (2 ^ pb))) Z Z<|J5 oM) Z (ah Z Z (aB (v:=.int .u64 (.ofNat<|bN n (Gv (l.take k) pa) ||| 2 ^ pb)) Z Z<|Iq (dG oM _)<|Nat.pow_lt_pow_right oM oM) Z<|ah Z Z (dP (e:=138) (m:=1) B B Z Z C) Z ?_))))))))));refine fD O (.there (.there .here)) Z Z (aL Z Z Z (O.get 2 Z) (m:=1) B Z (by rw[lM_];rw[cP];omega) Z (cells':=((cy n<|Gv<|l.take k).set pa<|bN n (Gv (l.take k) pa) ||| 2 ^ pb).map (gU)) (ei (f:=gU) (v:=(bN n (Gv (l.take k) pa) ||| 2 ^ pb)) (by rw[cP];exact C) (by first | omega | rfl))) Z (fun V O=>?_);refine⟨aY,?_⟩;rw[Ru E ab] at O;refine a8<|aD<|XK 4 Z ?_;have O:=O.pop;have hlp:=aS A;refine aJ ⟨j3-1,by omega,oF,k+1,by omega,cI<|a6 (by have:=X.cQ;omega),O⟩
     exact absurd (bI W) oM
    exact Bool.noConfusion (show true=false from T)
   exact absurd (bI R) oM
  exact Bool.noConfusion (show true=false from N)
 refine Wl 3 Z<|aQ<|Xb 2 Z<|S Z (YE Z O.g0 Z) Z<|pz O Z (YB Z Z Z (O.get 2 Z) Z) Z (fun V O=>?_);refine Xf 3 Z ?_;have ac:l.take k=l:=tL_ (bI A);rw[ac] at O;exact dy Z Z (O.get 2 Z) (m:=2) B Z ⟨b2,Z,O.sub (.cons _ (.cons_cons _ (.cons _ (.refl _))))⟩
theorem OH (C:Plain G) {n:Nat} (hn:n<64) {A:Rn} (E:bG K 1 RU (cy n A) va) (O:H V K L):
  EC G 173 [.agg [nI n,va]] V fun u V'=>∃b,u= .agg [nI n,.slice b 0 n (.known n)]/\H V' K ((b,.row ((cy n A).map gU) 138 false)::L):=by
 refine XD C Tryz.func173 Z<|Xb 2 Z<|kb O (cL Z Z) (fun V b1 O=>?_);refine kb O (Yy (cs:=[iZ,.aw])) (fun V b2 O=>?_);refine Wu O 6 [0,1] Z Z<|kw (Yu Z Z Z) (HK C hn O) ?_;rintro _ V ⟨F,rfl,O⟩;refine kb O (Yy (cs:=[iZ,.aw])) (fun V b4 O=>?_);refine ks O (YB Z Z Z O.g0 Z) (fun V O=>?_);refine Wu O 8 [1,0,1,3] Z Z<|Rt (e:=138) O E (by rw[lM_,cP,cP]) Z Z Z Z Z (by rw[cP];rfl) Z (fun _=>Z) (fun V O=>?_) B B;refine Wo 4 Z<|S Z (YE Z O.g0 Z) Z<|pz O Z (YB Z Z Z (O.get 2 Z) Z) Z (fun V O=>?_);refine Xf 3 Z ?_;exact dy Z Z (O.get 2 Z) (m:=2) B Z ⟨F,Z,O.sub (.cons _ (.cons_cons _ (.cons _ (.cons _ (.refl _)))))⟩
theorem Du (T:Plain G) {n:Nat} (hn:n<64) {A:Rn} (ha:bG K 1 RU (cy n A) va) (O:H V K L):
  EC G 149 [.agg [nI n,va]] V fun u V'=>∃b,u= .agg [nI n,.slice b 0 n (.known n)]/\H V' K ((b,.row ((cy n<|oX n A).map gU) 138 false)::L):=by
 refine XD T Tryz.func149 Z<|Xb 2 Z<|kb O (cL Z Z) (fun V b1 O=>?_);refine kb O (Yy (cs:=[iZ,.aw])) (fun V b2 O=>?_);refine VE 5 Z<|S Z (YE Z O.g1 Z) Z<|kx (Yu Z Z Z) (Jv T hn ha O) (fun V O=>?_);refine Xd 3 Z<|aG Z (fun h8=>?_) (fun h8=>?_)
 ·exact absurd h8 (by decide)
 refine Wk 4 Z<|S Z (YE Z O.g1 Z) Z<|kw (Yu Z Z Z) (OH T hn ha O) ?_;rintro _ V ⟨M,rfl,O⟩;refine kb O (Yy (cs:=[iZ,.aw])) (fun V b4 O=>?_);refine ks O (YB Z Z Z O.g0 Z) (fun V O=>?_);refine VF O 7 [1,0] Z Z (S Z (CI Z Z Z (e:=138) B Z) Z (Wm 4 Z (bq ([4,5]++rg 15 33) (fun j t V=>∃(k:Nat),j+k=n/\t.get 15=some (nI k)/\H V K ((b4,.row [nI n,.slice M 0 n (.known n)] 165 false)::(M,.row ((cy n<|jC A k).map gU) 138 false)::(b2,.row [iZ,.aw] 165 false)::(b1,.row [nI n,va] 165 false)::L)) (n) ⟨0,Z,Z,O⟩ ?_)));clear O;intro j5 t V ar W;obtain⟨k,ab,N,O⟩:=W;obtain⟨oo,rfl⟩:=ar.q1 N Z;refine Xa 6 Z<|aG Z (fun F=>?_) (fun F=>?_)
 ·refine UY 12 Z<|XS O 2 [1,0] Z Z<|S Z (CI Z Z Z (e:=138) B Z) Z ?_;rw[<-MC] at O;refine Wm 4 Z (bq ([5]++rg 21 26) (fun j t V=>∃(i:Nat),j+i=n/\t.get 21=some (nI i)/\H V K ((b4,.row [nI n,.slice M 0 n (.known n)] 165 false)::(M,.row ((cy n<|ik A k i).map gU) 138 false)::(b2,.row [iZ,.aw] 165 false)::(b1,.row [nI n,va] 165 false)::L)) (n) ⟨0,Z,Z,O⟩ ?_);clear O;intro j8 t V ar W;obtain⟨i,ac,R,O⟩:=W;obtain⟨oo,rfl⟩:=ar.q1 R Z;refine Xa 6 Z<|aG Z (fun C=>?_) (fun C=>?_)
  ·refine UY 12 Z ?_;have hkn:=aS F;have hin:=aS C;refine XS O 3 [1,0] Z Z (S Z (dP (e:=138) (m:=1) B B Z Z hin) Z (S Z (av Z O.g1 B<|gM (fG hin) (by first | omega | rfl)) Z (vQ 1 Z (S Z (lY (j:=k) oM B B B Z) Z (S Z (aB (v:=.int .u64 (.ofNat (bN n (ik A k i i)/2 ^ k))) Z Z<|xf oM) Z (S Z (aB (v:=.int .u64 (.ofNat (bN n (ik A k i i)/2 ^ k &&& 1))) Z Z<|uX (Nat.lt_of_le_of_lt (Nat.div_le_self _ _)<|dG oM _) (by decide)) Z (S Z (aB (v:=.bool ((bN n<|ik A k i i).testBit k)) Z Z (Gb)) Z<|Xd 2 Z<|aG Z (fun I=>?_) (fun I=>?_))))))))
   ·have E:ik A k i i k=true:=(gK (p:=ik A k i i) hkn).symm.trans I;refine aU (l:=zp [0,1,2,3,4,5,6,7,8,9,10,11,12]) B B (XT O 3 [1,0] Z Z (ah Z Z (dP (e:=138) (m:=1) B B Z Z hin) Z (ah Z Z (av Z O.g1 B<|gM (fG hin) (by first | omega | rfl)) Z (XT O 3 [1,0] Z Z (ah Z Z (dP (e:=138) (m:=1) B B Z Z hkn) Z (ah Z Z (av Z O.g1 B<|gM (fG hkn) (by first | omega | rfl)) Z (ah Z Z (aB (v:=.int .u64 (.ofNat<|bN n (ik A k i i) ||| bN n (ik A k i k))) Z Z<|Iq (dG oM _)<|dG oM _) Z<|ah Z Z (dP (e:=138) (m:=1) B B Z Z hin) Z ?_)))))));refine fD O (.there .here) Z Z (aL Z Z Z O.g1 (m:=1) B Z (by rw[lM_];rw[cP];omega) Z (cells':=((cy n<|ik A k i).set i<|bN n (ik A k i i) ||| bN n (ik A k i k)).map (gU)) (ei (f:=gU) (v:=(bN n (ik A k i i) ||| bN n (ik A k i k))) (by rw[cP];exact hin) (by first | omega | rfl))) Z (fun V O=>?_);refine⟨aY,?_⟩;rw[Sy E] at O;refine a8<|aD<|XK 4 Z ?_;have hlp:=aS C;refine aJ ⟨j8-1,by omega,oF,i+1,by omega,cI<|a6 oM,O⟩
   have E:ik A k i i k=false:=(gK (p:=ik A k i i) hkn).symm.trans I;refine aH<|aD<|XK 4 Z ?_;have hlp:=aS C;rw[UK E] at O;refine aJ ⟨j8-1,by omega,oF,i+1,by omega,cI<|a6 oM,O⟩
  refine Wl 3 Z<|aQ<|aD<|XK 4 Z ?_;have hlp:=aS F;have X:i=n:=by have:=bI C;omega
  subst X;rw[PS] at O;refine aJ ⟨j5-1,by omega,oF,k+1,by omega,cI<|a6 oM,O⟩
 refine Wl 3 Z<|aQ<|Xb 2 Z<|S Z (YE Z O.g0 Z) Z<|pz O Z (YB Z Z Z (O.get 2 Z) Z) Z (fun V O=>?_);refine Xf 3 Z ?_;have aa:k=n:=by have:=bI F;omega
 subst aa;rw[PU] at O;exact dy Z Z (O.get 2 Z) (m:=2) B Z ⟨M,Z,O.sub (.cons _ (.cons_cons _ (.cons _ (.cons _ (.refl _)))))⟩
variable {ca fi:List Y} {C E:Nat}
theorem Dv (R:Plain G) {b:Nat} {ev:Y} (hv:lH K g b iv ev fv pv) (aa:nV g<=62) {fn:Nat} (F:lz Tryz.prog fn=true) {p:Nat->Bool} (hf:∀i,i<nV g->∀(V:D) (L:Own),H V K L->EC G fn (fi++([nI i]++ca)) V fun u V'=>u= .bool (p i)/\H V' K L) (O:H V K L):
  EC G 190 [.ptr b 0,.func fn fi ca] V fun u V'=>u= .int .u64 (.ofNat<|bN (nV g) p)/\H V' K L:=by
 refine XD R Tryz.func190 Z<|Wi 14 Z<|S Z (cV Z) Z<|S Z (Yv 0 Z) Z<|S Z (Yw Z (O.bJ hv.row) Z) Z<|S Z (Yx hv.ids Z Z Z (e:=89) Z) Z<|Wm 4 Z ?_;obtain⟨LL1,O,hLL1⟩:=O.named;refine bq ([5,6]++rg 12 12) (fun j t V=>∃(i:Nat),j+i=nV g/\t.get 5=some (.int .u64 (.ofNat<|bN i p))/\t.get 12=some (nI i)/\H V K LL1) (nV g) ⟨0,Z,Z,Z,O⟩ ?_;clear O;intro Q t V ar T;obtain⟨i,ab,I,E,O⟩:=T;subst hLL1;obtain⟨oo,rfl⟩:=ar.q2 I E Z;refine Xa 6 Z<|aG Z (fun A=>?_) (fun A=>?_)
 ·refine UY 6 Z ?_;have M:i<nV g:=aS A;refine Wo 8 Z<|Jp Z (aP Z Z Z F) (fun _=>Z) (hf i M _ _ O) (fun C V O=>?_) (fun C V O=>?_)
  ·refine Xe 6 Z (S Z (lY (j:=i) oM B B B Z) Z (S Z (aB (v:=.int .u64 (.ofNat (2 ^ i))) Z Z<|J5 oM) Z (S Z (aB (v:=.int .u64 (.ofNat<|bN i p ||| 2 ^ i)) Z Z<|Iq (dG oM _)<|Nat.pow_lt_pow_right oM oM) Z<|XO 2 Z<|aD<|XK 4 Z<|aJ ⟨Q-1,by omega,oF,i+1,by omega,congrArg (fun z=>some (Y.int .u64 (.ofNat z))) (by show _=bN i p ||| (bif p i then 2 ^ i else 0);rw[C];rfl),cI<|a6 oM,O⟩)))
  refine Wp 5 Z<|XK 4 Z<|aJ ⟨Q-1,by omega,oF,i+1,by omega,congrArg (fun z=>some (Y.int .u64 (.ofNat z))) (by show _=bN i p ||| (bif p i then 2 ^ i else 0);rw[C];exact(Nat.or_zero _).symm),cI<|a6 oM,O⟩
 refine Wl 3 Z<|aQ<|XN 7 Z ?_;have N:i=nV g:=by have h:nV g<=i:=bI A;omega
 subst N;exact az Z Z ⟨Z,O⟩
theorem Cg (hG:Plain G) {b:Nat} {ev:Y} (hv:lH K g b iv ev fv pv) (ac:nV g<=62) {fn:Nat} (am:lz Tryz.prog fn=true) {R:Rn} (hf:∀i q,i<nV g->q<nV g->∀(V:D) (L:Own),H V K L->EC G fn (fi++([nI i,nI q]++ca)) V fun u V'=>u= .bool (R i q)/\H V' K L) (O:H V K L):
  EC G 163 [.ptr b 0,.func fn fi ca] V fun u V'=>∃Q c,KP.le K Q/\u= .agg [nI<|nV g,.slice c 0 (nV g) (.known<|nV g)]/\H V' Q ((c,.row ((cy (nV g) R).map gU) 138 false)::L):=by
 refine XD hG Tryz.func163 Z<|Xb 2 Z<|kb O (Yy (cs:=[iZ,.aw])) (fun V b1 O=>?_);refine VE 11 Z (S Z (cV Z) Z (S Z (Yv 0 Z) Z (S Z (Yw Z (O.bJ hv.row) Z) Z (S Z (Yx hv.ids Z Z Z (e:=89) Z) Z (Wm 4 Z (bq ([5,6,7]++rg 13 23) (fun j t V=>∃(i:Nat) (u:Y) (M:Own),j+i=nV g/\cO 2 247 RP (iA (nV g) R i 0) u M/\t.get 5=some (u)/\t.get 13=some (nI i)/\H V K (M++(b1,.row [iZ,.aw] 165 false)::L)) (nV g) ⟨0,_,[],Z,(show cO 2 247 RP (iA (nV g) R 0 0) .aw [] from .inl ⟨by unfold iA;simp,Z,Z⟩),Z,Z,O⟩ ?_))))));clear O;intro j3 t V ar hI;obtain⟨i,u,M,aE,hO,C,T,O⟩:=hI;obtain⟨oo,rfl⟩:=ar.q2 C T Z;refine Xa 6 Z<|aG Z (fun A=>?_) (fun A=>?_)
 ·refine UY 13 Z (S Z (cV Z) Z (S Z (Yv 0 Z) Z (S Z (Yw Z (O.bJ hv.row) Z) Z (S Z (Yx hv.ids Z Z Z (e:=89) Z) Z (Wm 4 Z (bq ([5,7]++rg 21 14) (fun j t V=>∃(q:Nat) (W:Y) (M2:Own),j+q=nV g/\cO 2 247 RP (iA (nV g) R i q) W M2/\t.get 5=some (W)/\t.get 21=some (nI q)/\H V K (M2++(b1,.row [iZ,.aw] 165 false)::L)) (nV g) ⟨0,u,M,Z,hO,Z,Z,O⟩ ?_))))));clear O;intro j6 t V ar hI;obtain⟨q,W,M2,a0,hO2,C,aa,O⟩:=hI;obtain⟨oo,rfl⟩:=ar.q2 C aa Z;refine Xa 6 Z<|aG Z (fun E=>?_) (fun E=>?_)
  ·refine UY 12 Z ?_;have ao:i<nV g:=aS A;have ap:q<nV g:=aS E;refine XP 3 Z<|Jp Z (aP Z Z Z am) (fun _=>Z) (hf i q ao ap _ _ O) (fun F V O=>?_) (fun F V O=>?_)
   ·refine Xe 7 Z<|S Z (Gn (e:=3) (n:=2) (m:=1) (zero:=[iZ,iZ]) (cs:=[_,_]) B B B Z) Z<|gE O Z (cM (e:=247) (m:=2) (z:=[iZ,iZ]) (cs:=[_,_]) B B B B<|bn Z Z Z Z cD) (fun _=>Z) (fun V b2 O=>?_);replace O:=O.pull (.there .here);replace O:=O.pull (.dz<|bu.here (X:=[_]));refine kE (R:=RP) (m:=2) (e:=247) hO2 O (fQ (m:=2) Z (show RP (i,q) [nI i,nI q] from Z)) RP.leaf (by have:=HS (n:=nV g) (R:=R) (i:=i) (q:=q);have:i*nV g<=62*62:=Nat.mul_le_mul oM ac;show _+1<=_;omega) Z Z Z Z Z Z Z (fun _=>Z) (fun V aq ax hO33 O=>?_);refine XO 2 Z<|aD<|XK 4 Z<|aJ ⟨j6-1,by omega,oF,q+1,aq,ax,by omega,(HU F ▸ hO33),Z,cI<|a6 oM,O⟩
   refine Wp 5 Z<|XK 4 Z<|aJ ⟨j6-1,by omega,oF,q+1,W,M2,by omega,(LG F ▸ hO2),Z,cI<|a6 oM,O⟩
  refine Wl 3 Z<|aQ<|aD<|XK 4 Z ?_;have a1:i<nV g:=aS A;have I:q=nV g:=by have h:nV g<=q:=bI E;omega
  subst I;refine aJ ⟨j3-1,by omega,oF,i+1,W,M2,by omega,(HT ▸ hO2),Z,cI<|a6 oM,O⟩
 refine Wl 3 Z<|aQ<|Xb 3 Z<|S Z (cV Z) Z<|S Z (Yv 0 Z) Z<|S Z (Yw Z (O.bJ hv.row) Z) Z<|S Z (Yx hv.ids Z Z Z (e:=89) Z) Z<|vQ 1 Z ?_;have I:i=nV g:=by have h:nV g<=i:=bI A;omega
 subst I;rw[FC] at hO;obtain⟨Q,ab,N,O⟩:=H.bZ (M:=M) O;have hs1:=hO.gB (K:=Q) fun y hy=>N _ hy
 refine kw (Yu Z Z Z) (W6 hG (n:=nV g) oM hs1 OP O) ?_;rintro _ V ⟨b2,rfl,O⟩;rw[LB] at O;refine gF O Z (YB Z Z Z O.g1 Z) Z (fun V O=>?_);refine Xf 3 Z ?_;exact dy Z Z O.g1 (m:=2) B Z ⟨Q,b2,ab,Z,O.sub (.cons_cons _ (.cons _ (.refl _)))⟩
theorem Ui (T:Plain G) {b:Nat} {ev:Y} (hv:lH K g b iv ev fv pv) (W:eE g) {p:Nat->Bool} (ao:nV g<=62) {i Q R:Nat} (hi:i<nV g) (h1:K Q (.row [.ptr b 0] 226 false)) (X:K R (.row [.int .u64 (.ofNat<|bN (nV g) p)] 138 false)) (O:H V K L):
  Ca G K L 208 [nI i,.ptr Q 0,.ptr R 0] V <| .bool (ze g p i):=by
 refine XD T Tryz.func208 Z<|Xa 6 Z<|aU (l:=zp [0,1,2,3,4,5,6,7,8,9,10,11,12,13,14,15,16,17,18,19,20,21,22,23]) B B<|ah Z Z (Yw Z (O.bJ h1) Z) Z<|ah Z Z (cV Z) Z<|ah Z Z (Yv 1 Z) Z<|ah Z Z (Yw Z (O.bJ hv.row) Z) Z<|wQ 1 Z<|Yq (e:=40) (m:=5) hv.mB (lu hi) Z Z Z Z Z (fun ap aa A ab C=>?_);obtain rfl:=C;refine fb A Z Z Z Z (k:=0) B (lb Z) (fun _=>Z) (fun aq E=>?_);refine ah Z Z (Yz O E Z Z) Z<|wQ 1 Z<|gO Z Z (an Z) (fun _=>Z) (fun u=>?_) (fun u=>?_)
 ·refine ah Z Z (Yw Z (O.bJ X) Z) Z<|ah Z Z (Yw Z (O.bJ h1) Z) Z<|ah Z Z (cV Z) Z<|ah Z Z (Yv 2 Z) Z<|ah Z Z (Yw Z (O.bJ hv.row) Z) Z<|wQ 1 Z<|Yq (e:=3) (m:=1) hv.from_ (qZ hi) Z Z Z Z Z (fun ar ac F am I=>?_);obtain rfl:=I;refine ah Z Z (Yz O F Z Z) Z ?_;obtain⟨f,N,M,_⟩:=lN W hi (qF u);refine ah Z Z (lY (j:=f) oM B B B<|cI M) Z (ah Z Z (aB (v:=.int .u64 (.ofNat (bN (nV g) p/2 ^ f))) Z Z<|xf oM) Z (ah Z Z (aB (v:=.int .u64 (.ofNat (bN (nV g) p/2 ^ f &&& 1))) Z Z<|uX (Nat.lt_of_le_of_lt (Nat.div_le_self _ _)<|dG oM _) (by decide)) Z (ah Z Z (aB (v:=.bool ((bN (nV g) p).testBit f)) Z Z (Gb)) Z<|Xh 5 Z ?_)));exact az Z Z ⟨cB (by unfold ze;rw[show bD (fc g i).kind 3=true from u,M];exact gK N),O⟩
 refine Xh 17 Z ?_;exact az Z Z ⟨cB (by unfold ze;rw[show bD (fc g i).kind 3=false from u];rfl),O⟩
theorem Pq {p:Nat->Bool} {x:Nat} (hne:x≠bN (nV g) p) (hj:2*(nV g-xu (nV g) p)+(if x=bN (nV g) p then 0 else 1)<=j):2*(nV g-xu (nV g) (iQ g p))+(if bN (nV g) p=bN (nV g) (iQ g p) then 0 else 1)<j:=by
 rw[if_neg hne] at hj;have h1:=QV (nV g) (iQ g p);have h0:xu (nV g) p<=xu (nV g) (iQ g p):=KD fun k hk=>by unfold iQ;rw[hk];rfl
 by_cases h:bN (nV g) p=bN (nV g) (iQ g p)
 ·rw[if_pos h];omega
 rw[if_neg h];have:=Le h;omega
theorem R8 (C:eE g) {w x:Nat} {p:Nat->Bool} (hw:w<nV g) (h:Ee g w p) (hx:x=bN (nV g) p) (E:x=0∨∃u,Ee g w u/\x=bN (nV g) u/\bN (nV g) p=bN (nV g) (iQ g u)):bN (nV g) p=bN (nV g) (wc g w):=by
 rcases E with h0 | ⟨u,h1,A,h3⟩
 ·have:=gK (p:=p) hw;rw[<-hx,h0,h.at_] at this;simp at this
 rw[<-hx,A];exact Sb C hw h1 (by rw[<-A,hx,h3])
theorem HN (I:Plain G) {b:Nat} {ev:Y} (hv:lH K g b iv ev fv pv) (N:eE g) (F:nV g<=62) {w:Nat} (hw:w<nV g) (O:H V K L):
  Ca G K L 189 [.ptr b 0,nI w] V <| .int .u64 (.ofNat<|bN (nV g)<|wc g w):=by
 refine XD I Tryz.func189 Z<|Xb 2 Z<|kb O (cL Z Z) (fun V b1 O=>?_);obtain⟨X,u,A,O⟩:=O.bZ (M:=[_]);have h1:=A _ (mS_ ..);clear A;replace hv:=hv.mono u;refine Wo 6 Z (S Z (lY (j:=w) oM B B B Z) Z (S Z (aB (v:=.int .u64 (.ofNat (2 ^ w))) Z Z<|J5 oM) Z<|kb O (Yy (cs:=[.int .u64 0])) (fun V b2 O=>?_)));refine ks O (UM Z Z Z O.g0 (m:=1) Z Z (cells':=[_]) Z) (fun V O=>?_);refine VE 5 Z ?_;rw[<-Sa hw] at O;refine Wm 4 Z (bq ([6]++rg 10 9) (fun j t V=>∃(p:Nat->Bool) (x:Nat),2*(nV g-xu (nV g) p)+(if x=bN (nV g) p then 0 else 1)<=j/\Ee g w p/\(x=0∨∃Q,Ee g w Q/\x=bN (nV g) Q/\bN (nV g) p=bN (nV g) (iQ g Q))/\t.get 6=some (.int .u64 (.ofNat x))/\H V X ((b2,.row [.int .u64 (.ofNat<|bN (nV g) p)] 138 false)::L)) (2*(nV g-xu (nV g) (fun n=>decide (n=w)))+(if 0=bN (nV g) (fun n=>decide (n=w)) then 0 else 1)) ⟨_,0,nR_ _,Ut,.inl Z,Z,O⟩ ?_);clear O;intro j3 t V ar hI;obtain⟨p,x,R,C,T,W,O⟩:=hI;obtain⟨oo,rfl⟩:=ar.q1 W Z;refine Wt O 6 [0] Z Z<|Xd 2 Z<|aG Z (fun E=>?_) (fun E=>?_)
 ·refine aH<|ad<|aK<|Xb 2 Z ?_;have hne:x≠bN (nV g) p:=fun e=>by have h:=eb E;rw[e,kY] at h;cases h
  refine XS O 2 [0] Z Z (Xd 2 Z (aU (l:=[(0,[]),(1,[]),(2,[]),(3,[0]),(4,[]),(5,[])]) B B<|ah Z Z (Yw Z O.g0 Z) Z<|ah Z Z (Yw Z (O.bJ h1) Z) Z<|wQ 1 Z ?_));have hst0:=O;have hstk:=H.keeps (M:=[_]) O;refine dO Z Z (Yu Z Z Z) (fun _=>Z) ((Dv I (hv.mono<|KP.cR _ _) F (fn:=208) (fi:=[]) (ca:=[_,_]) B (fun i hi V L O=>Ui I (hv.mono<|KP.cR _ _) N (p:=p) F hi (KP.cR _ _ _ _ h1) (.inr<|mS_ ..) O) hstk).mono fun v V' h=>⟨h.1,H.lj (M:=[_]) hst0 h.2⟩) (fun V O=>?_);refine⟨(bx (bC Z Z Z Z Z (Yw Z O.g0 Z)<|dF _ _) aY),?_⟩;refine ah Z Z (aB (v:=.int .u64 (.ofNat<|bN (nV g)<|iQ g p)) Z Z (by rw[<-Ld];exact Iq (dG oM _)<|dG oM _)) Z<|pB O Z Z (UM Z Z Z O.g0 (m:=1) Z Z (cells':=[_]) Z) Z (fun V O=>?_);refine⟨aY,?_⟩;refine a8<|aD<|aJ ⟨_,Pq hne R,oF,iQ g p,bN (nV g) p,nR_ _,Sc N C,.inr ⟨p,C,Z,Z⟩,Z,O⟩
 refine Wl 3 Z<|aQ<|Xb 2 Z<|Xi O 5 [0] Z Z ?_;have hx:x=bN (nV g) p:=yK.1 (dg E);exact az Z Z ⟨congrArg (fun z=>Y.int .u64 (.ofNat z))<|R8 N hw C hx T,(O.pop).weaken u⟩
theorem Ud (u:Plain G) {b:Nat} {ev:Y} (hv:lH K g b iv ev fv pv) {i a A:Nat} (hi:i<nV g) (E:a<nV g) (h1:K A (.row [.ptr b 0] 226 false)) (F:K C (.row [nI a] 3 false)) (O:H V K L):
  Ca G K L 209 [nI i,.ptr A 0,.ptr C 0] V <| .bool (nO g i a):=by
 refine XD u Tryz.func209 Z<|Xb 7 Z<|S Z (Yw Z (O.bJ h1) Z) Z<|vQ 1 Z<|S Z (Yw Z (O.bJ F) Z) Z<|kx (Yu Z Z Z) (Ug u hv hi E O) (fun V O=>?_);refine Xf 4 Z ?_;exact az Z Z ⟨Z,O⟩
theorem QH {s:Nat->Bool} {a:Nat}:(bif bD (.ofNat<|bN (nV g) s &&& bN (nV g) (fun b=>nO g b a)) 0 then false else true)=(false || (true && (List.range<|nV g).any fun b=>s b && nO g b a)):=by
 rw[Bool.false_or,zp_,show(0:Int)= .ofNat 0 from Z,gd];cases h:(List.range<|nV g).any fun b=>s b && nO g b a with
 | true=>rw[decide_eq_false<|IT.2 h];rfl
 | false=>
  have:bN (nV g) s &&& bN (nV g) (fun b=>nO g b a)=0:=zo_ fun hn=>by rw[IT.1 hn] at h;cases h
  rw[decide_eq_true this];rfl
theorem OG (I:Plain G) {b:Nat} {ev:Y} (hv:lH K g b iv ev fv pv) (N:nV g<=62) {s:Nat->Bool} {a:Nat} (F:a<nV g) (O:H V K L):
  Ca G K L 194 [.ptr b 0,.int .u64 (.ofNat<|bN (nV g) s),nI a] V <| .bool (Kk g s a):=by
 refine XD I Tryz.func194 Z<|Xb 2 Z<|kb O (cL Z Z) (fun V b1 O=>?_);refine kb O (cL Z Z) (fun V b2 O=>?_);obtain⟨K1,u,A,O⟩:=O.bZ (M:=[_,_]);have h2:=A _ (mS_ ..);have h1:=A _ (mC_ _<|mS_ ..);clear A;replace hv:=hv.mono u;refine VE 7 Z (S Z (Yw Z (O.bJ h2) Z) Z (S Z (lY (j:=a) oM B B B Z) Z (S Z (aB (v:=.int .u64 (.ofNat (bN (nV g) s/2 ^ a))) Z Z<|xf oM) Z (S Z (aB (v:=.int .u64 (.ofNat (bN (nV g) s/2 ^ a &&& 1))) Z Z<|uX (Nat.lt_of_le_of_lt (Nat.div_le_self _ _)<|dG oM _) (by decide)) Z (S Z (aB (v:=.bool ((bN (nV g) s).testBit a)) Z Z (Gb)) Z<|Xd 2 Z<|aG Z (fun C=>?_) (fun C=>?_))))))
 ·refine Xc 7 Z ?_;exact az Z Z ⟨cB (by unfold Kk;rw[show s a=true from(gK F).symm.trans C];rfl),(O).weaken u⟩
 refine Wk 4 Z<|S Z (Yw Z (O.bJ h1) Z) Z<|S Z (Yw Z (O.bJ h2) Z) Z<|kx (Yu Z Z Z) (xS I hv F O) (fun V O=>?_);refine ky Z (an Z) (fun E=>?_) (fun E=>?_)
 ·refine vQ 1 Z<|S Z (Yw Z (O.bJ h1) Z) Z<|vQ 1 Z<|kx (Yu Z Z Z) (Dv I hv N (fn:=209) (fi:=[]) (ca:=[_,_]) (p:=fun b=>nO g b a) B (fun i hi V L O=>Ud I hv hi F h1 h2 O) O) (fun V O=>?_);refine S Z (aB (v:=.int .u64 (.ofNat<|bN (nV g) s &&& bN (nV g) (fun b=>nO g b a))) Z Z<|uX (dG oM _)<|dG oM _) Z<|Xf 6 Z ?_;exact az Z Z ⟨cB (by unfold Kk;rw[show s a=false from(gK F).symm.trans C,show bD (fc g a).kind 4=true from E];exact QH),(O).weaken u⟩
 refine Xf 11 Z ?_;exact az Z Z ⟨cB (by unfold Kk;rw[show s a=false from(gK F).symm.trans C,show bD (fc g a).kind 4=false from E];rfl),(O).weaken u⟩
theorem Vy (R:Plain G) {b:Nat} {ev:Y} (hv:lH K g b iv ev fv pv) (X:eE g) (ao:nV g<=62) {w i T W:Nat} (hi:i<nV g) (h1:K T (.row [.ptr b 0] 226 false)) (h2:K W (.row [.int .u64 (.ofNat<|bN (nV g)<|wc g w)] 138 false)) (O:H V K L):
  Ca G K L 191 [nI i,.ptr T 0,.ptr W 0] V <| .bool (ot g w i):=by
 refine XD R Tryz.func191 Z<|Xa 6 Z<|aU (l:=zp [0,1,2,3,4,5,6,7,8,9,10,11,12,13,14,15,16,17,18,19,20,21,22,23,24,25,26,27,28]) B B<|ah Z Z (Yw Z (O.bJ h1) Z) Z<|wQ 1 Z<|dO Z Z (Yu Z Z Z) (fun _=>Z) (RH R hv hi O) (fun V O=>?_);refine⟨aY,?_⟩;refine gO Z Z (an Z) (fun _=>Z) (fun A=>?_) (fun A=>?_)
 ·refine ah Z Z (Yw Z (O.bJ h1) Z) Z<|ah Z Z (cV Z) Z<|ah Z Z (Yv 1 Z) Z<|ah Z Z (Yw Z (O.bJ hv.row) Z) Z<|wQ 1 Z<|Yq (e:=40) (m:=5) hv.mB (lu hi) Z Z Z Z Z (fun ap aa C ab E=>?_);obtain rfl:=E;refine fb C Z Z Z Z (k:=2) B (lb Z) (fun _=>Z) (fun aq F=>?_);refine ah Z Z (Yz O F Z Z) Z<|XQ 2 Z<|gO Z Z (an Z) (fun _=>Z) (fun u=>?_) (fun u=>?_)
  ·refine ah Z Z (Yw Z (O.bJ h2) Z) Z<|ah Z Z (Yw Z (O.bJ h1) Z) Z<|ah Z Z (cV Z) Z<|ah Z Z (Yv 2 Z) Z<|ah Z Z (Yw Z (O.bJ hv.row) Z) Z<|wQ 1 Z<|Yq (e:=3) (m:=1) hv.from_ (qZ hi) Z Z Z Z Z (fun ar ac I am M=>?_);obtain rfl:=M;refine ah Z Z (Yz O I Z Z) Z ?_;obtain⟨f,Q,N,_⟩:=lN X hi A;refine ah Z Z (lY (j:=f) oM B B B<|cI N) Z (ah Z Z (aB (v:=.int .u64 (.ofNat (bN (nV g) (wc g w)/2 ^ f))) Z Z<|xf oM) Z (ah Z Z (aB (v:=.int .u64 (.ofNat (bN (nV g) (wc g w)/2 ^ f &&& 1))) Z Z<|uX (Nat.lt_of_le_of_lt (Nat.div_le_self _ _)<|dG oM _) (by decide)) Z (ah Z Z (aB (v:=.bool ((bN (nV g)<|wc g w).testBit f)) Z Z (Gb)) Z<|Xh 5 Z ?_)));exact az Z Z ⟨cB (by rw[yA,show dq (fc g i)=true from A,show bD (fc g i).order 1=false from eb u,N];exact gK Q),O⟩
  refine Xh 17 Z ?_;exact az Z Z ⟨cB (by rw[yA,show dq (fc g i)=true from A,show bD (fc g i).order 1=true from dg u];rfl),O⟩
 refine Xh 28 Z ?_;exact az Z Z ⟨cB (by rw[yA,show dq (fc g i)=false from A];rfl),O⟩
theorem Vz (u:Plain G) {b:Nat} {ev:Y} (hv:lH K g b iv ev fv pv) (A:nV g<=62) {w i F:Nat} (hi:i<nV g) (h1:K E (.row [.ptr b 0] 226 false)) (I:K F (.row [.int .u64 (.ofNat<|bN (nV g)<|ot g w)] 138 false)) (O:H V K L):
  Ca G K L 192 [nI i,.ptr E 0,.ptr F 0] V <| .bool (ri g w i):=by
 refine XD u Tryz.func192 Z<|Xb 7 Z<|S Z (Yw Z (O.bJ h1) Z) Z<|vQ 1 Z<|kx (Yu Z Z Z) (HL u hv hi O) (fun V O=>?_);refine ky Z (an Z) (fun C=>?_) (fun C=>?_)
 ·refine S Z (Yw Z (O.bJ h1) Z) Z<|S Z (Yw Z (O.bJ I) Z) Z<|vQ 1 Z<|kx (Yu Z Z Z) (OG u hv A hi O) (fun V O=>?_);refine Xf 5 Z ?_;exact az Z Z ⟨cB (by unfold ri;rw[show xr g i=true from C];rfl),O⟩
 refine Xf 9 Z ?_;exact az Z Z ⟨cB (by unfold ri;rw[show xr g i=false from C];rfl),O⟩
theorem VA (E:Plain G) (aa:nV g<=62) {i:Nat} {rv:Y} (hi:i<nV g) (hq:q<nV g) (h3:K C (.row [rv] 163 false)) (F:bG K 1 RU (cy (nV g)<|xX g) rv) (O:H V K L):
  Ca G K L 197 [nI i,nI q,.ptr C 0] V <| .bool (xX g i q):=by
 refine XD E Tryz.func197 Z<|Xb 7 Z<|S Z (Yw Z (O.bJ h3) Z) Z<|vQ 1 Z<|Yp (e:=138) (m:=1) F (fG hi) Z Z Z Z (fun p8 ab u ac A=>?_);obtain rfl:=A;refine S Z (Yz O u Z Z) Z (vQ 1 Z (S Z (lY (j:=q) oM B B B Z) Z (S Z (aB (v:=.int .u64 (.ofNat (bN (nV g) (xX g i)/2 ^ q))) Z Z<|xf oM) Z (S Z (aB (v:=.int .u64 (.ofNat (bN (nV g) (xX g i)/2 ^ q &&& 1))) Z Z<|uX (Nat.lt_of_le_of_lt (Nat.div_le_self _ _)<|dG oM _) (by decide)) Z (S Z (aB (v:=.bool ((bN (nV g)<|xX g i).testBit q)) Z Z (Gb)) Z<|Xf 4 Z ?_)))));exact az Z Z ⟨cB<|gK hq,O⟩
theorem W9 (I:Plain G) {b:Nat} {ev:Y} (hv:lH K g b iv ev fv pv) (hR:eE g) (C:nV g<=62) (O:H V K L):
  EC G 170 [.ptr b 0] V fun u V'=>∃K1 c,KP.le K K1/\u= .agg [nI<|nV g,.slice c 0 (nV g) (.known<|nV g)]/\H V' K1 ((c,.row ((cy (nV g)<|xX g).map gU) 138 false)::L):=by
 refine XD I Tryz.func170 Z<|Xb 2 Z<|kb O (cL Z Z) (fun V b1 O=>?_);obtain⟨K1,W,X,O⟩:=O.bZ (M:=[_]);have h1:=X _ (mS_ ..);clear X;replace hv:=hv.mono W;refine kb O (Yy (cs:=[iZ,.aw])) (fun V b2 O=>?_);refine Wo 4 Z<|S Z (Yw Z (O.bJ h1) Z) Z<|S Z (cV Z) Z<|S Z (Yv 0 Z) Z<|S Z (Yw Z (O.bJ hv.row) Z) Z<|S Z (Yx hv.ids Z Z Z (e:=89) Z) Z<|gE O Z (gT (e:=138) (w:=8) (z:=[gU 0]) B B B B (show _=some (Y.int .i64 (.ofNat<|nV g)) from Z) (show _=some (Y.int .i64 (.ofNat<|nV g)) from Z) oM oM) (fun _=>Z) (fun V b3 O=>?_);rw[gp (f:=gU)] at O;refine kb O (Yy (cs:=[.aw])) (fun V b4 O=>?_);refine ks O (UM Z Z Z O.g0 (m:=1) Z Z (cells':=[_]) Z) (fun V O=>?_);refine VE 5 Z ?_;rw[Ae,show cy (nV g) (fun _ _=>false)=cy (nV g) (JY g 0) from Z] at O;refine S Z (Yw Z (O.bJ h1) Z) Z (S Z (cV Z) Z (S Z (Yv 0 Z) Z (S Z (Yw Z (O.bJ hv.row) Z) Z (S Z (Yx hv.ids Z Z Z (e:=89) Z) Z (Wm 4 Z (bq (rg 4 5++rg 20 65) (fun j t V=>∃(w:Nat),j+w=nV g/\t.get 20=some (nI w)/\H V K1 ((b4,.row [.slice b3 0 (nV g) (.known<|nV g)] 163 false)::(b3,.row ((cy (nV g)<|JY g w).map gU) 138 false)::(b2,.row [iZ,.aw] 165 false)::L)) (nV g) ⟨0,Z,Z,O⟩ ?_))))));clear O;intro j3 t V ar hI;obtain⟨w,bc,aq,O⟩:=hI;obtain⟨oo,rfl⟩:=ar.q1 aq Z;refine Xa 6 Z<|aG Z (fun ab=>?_) (fun ab=>?_)
 ·refine UY 6 Z ?_;have R:w<nV g:=aS ab;refine VE 7 Z<|S Z (Yw Z (O.bJ h1) Z) Z<|vQ 1 Z<|kx (Yu Z Z Z) (ON I hv R O) (fun V O=>?_);refine S Z (ek Z) Z<|ky Z (an Z) (fun ac=>?_) (fun ac=>?_)
  ·refine Ws 15 Z<|aQ<|XK 4 Z ?_;have cw:qq g w=false:=by rw[yB,show bQ (fc g w)=false from eb ac];rfl
   rw[<-F8 cw] at O;refine aJ ⟨j3-1,by omega,oF,w+1,by omega,cI<|a6 oM,O⟩
  refine S Z (Yw Z (O.bJ h1) Z) Z<|S Z (cV Z) Z<|S Z (Yv 1 Z) Z<|S Z (Yw Z (O.bJ hv.row) Z) Z<|vQ 1 Z<|Yp (e:=40) (m:=5) hv.mB (lu R) Z Z Z Z (fun bd a9 ax ba aE=>?_);obtain rfl:=aE;refine bU ax Z Z Z (k:=2) B (lb Z) (fun _=>Z) (fun be a0=>?_);refine S Z (Yz O a0 Z Z) Z<|Xd 4 Z<|aG Z (fun am=>?_) (fun am=>?_)
  ·refine bz<|aT<|aQ<|XK 4 Z ?_;have cw:qq g w=false:=by rw[yB,show bD (fc g w).order 1=true from am];exact Bool.and_false _
   rw[<-F8 cw] at O;refine aJ ⟨j3-1,by omega,oF,w+1,by omega,cI<|a6 oM,O⟩
  refine Wk 4 Z<|S Z (Yw Z (O.bJ h1) Z) Z<|vQ 1 Z<|kx (Yu Z Z Z) (HN I hv hR C R O) (fun V O=>?_);refine kb O (Yy (cs:=[.int .u64 0])) (fun V b5 O=>?_);refine ks O (UM Z Z Z O.g0 (m:=1) Z Z (cells':=[_]) Z) (fun V O=>?_);refine Wo 4 Z<|S Z (Yw Z (O.bJ h1) Z) Z<|vQ 1 Z ?_;have hst0:=O;have hstk:=H.keeps (M:=[_]) O;refine kx (Yu Z Z Z) ((Dv I (hv.mono<|KP.cR _ _) C (fn:=191) (fi:=[]) (ca:=[_,_]) B (fun i hi V L O=>Vy I (hv.mono<|KP.cR _ _) hR (w:=w) C hi (KP.cR _ _ _ _ h1) (.inr<|mS_ ..) O) hstk).mono fun v V' h=>⟨h.1,H.lj (M:=[_]) hst0 h.2⟩) (fun V O=>?_);refine kb O (Yy (cs:=[.int .u64 0])) (fun V b6 O=>?_);refine ks O (UM Z Z Z O.g0 (m:=1) Z Z (cells':=[_]) Z) (fun V O=>?_);refine VF O 7 [0] Z Z<|Xd 2 Z<|aG Z (fun a1=>?_) (fun a1=>?_)
  ·refine bz<|aT<|aQ<|XK 4 Z ?_;have O:=O.pop;have O:=O.pop;rw[<-Pz (yK.1 (show bD (.ofNat<|bN (nV g)<|ot g w) (.ofNat 0)=true from a1))] at O;refine aJ ⟨j3-1,by omega,oF,w+1,by omega,cI<|a6 oM,O⟩
  refine Wk 4 Z<|S Z (Yw Z (O.bJ h1) Z) Z<|vQ 1 Z ?_;have hst0:=O;have hstk:=H.keeps (M:=[_]) O;refine kx (Yu Z Z Z) ((Dv I (hv.mono<|KP.cR _ _) C (fn:=192) (fi:=[]) (ca:=[_,_]) B (fun i hi V L O=>Vz I (hv.mono<|KP.cR _ _) (w:=w) C hi (KP.cR _ _ _ _ h1) (.inr<|mS_ ..) O) hstk).mono fun v V' h=>⟨h.1,H.lj (M:=[_]) hst0 h.2⟩) (fun V O=>?_);refine Wo 5 Z ?_;rw[<-PA] at O;refine S Z (Yw Z (O.bJ h1) Z) Z (S Z (cV Z) Z (S Z (Yv 0 Z) Z (S Z (Yw Z (O.bJ hv.row) Z) Z (S Z (Yx hv.ids Z Z Z (e:=89) Z) Z (Wm 4 Z (bq ([8]++rg 54 30) (fun j t V=>∃(r:Nat),j+r=nV g/\t.get 54=some (nI r)/\H V K1 ((b6,.row [.int .u64 (.ofNat<|bN (nV g)<|ot g w)] 138 false)::(b5,.row [.int .u64 (.ofNat<|bN (nV g)<|wc g w)] 138 false)::(b4,.row [.slice b3 0 (nV g) (.known<|nV g)] 163 false)::(b3,.row ((cy (nV g)<|A0 g w r).map gU) 138 false)::(b2,.row [iZ,.aw] 165 false)::L)) (nV g) ⟨0,Z,Z,O⟩ ?_))))));clear O;intro N t V ar hI;obtain⟨r,bb,a2,O⟩:=hI;obtain⟨oo,rfl⟩:=ar.q1 a2 Z;refine Xa 6 Z<|aG Z (fun ao=>?_) (fun ao=>?_)
  ·refine UY 6 Z ?_;have A:r<nV g:=aS ao;refine Wo 6 Z<|S Z (Yw Z (O.bJ h1) Z) Z<|vQ 1 Z<|kx (Yu Z Z Z) (HM I hv A O) (fun V O=>?_);refine ky Z (an Z) (fun F=>?_) (fun F=>?_)
   ·refine XP 3 Z<|ky Z (an Z) (fun Q=>?_) (fun Q=>?_)
    ·refine Xe 15 Z ?_;have cr:mr g w r=true:=by rw[qo,show uJ g r=true from F,show bD (.ofNat r) (.ofNat w)=true from Q];rfl
     refine XS O 2 [2] Z Z (S Z (dP (e:=138) (m:=1) B B Z Z A) Z (S Z (av Z (O.get 3 Z) B<|gM (fG A) (by first | omega | rfl)) Z (vQ 1 Z (S Z (aB (v:=.int .u64 (.ofNat<|bN (nV g) (A0 g w r r) ||| bN (nV g) (ri g w))) Z Z<|Iq (dG oM _)<|dG oM _) Z<|S Z (dP (e:=138) (m:=1) B B Z Z A) Z ?_))));refine fM O (.there (.there (.there .here))) Z (aL Z Z Z (O.get 3 Z) (m:=1) B Z (by rw[lM_];rw[cP];omega) Z (cells':=((cy (nV g)<|A0 g w r).set r<|bN (nV g) (A0 g w r r) ||| bN (nV g) (ri g w)).map (gU)) (ei (f:=gU) (v:=(bN (nV g) (A0 g w r r) ||| bN (nV g) (ri g w))) (by rw[cP];exact A) (by first | omega | rfl))) Z (fun V O=>?_);rw[JZ cr] at O;refine ae<|aD<|XK 4 Z<|aJ ⟨N-1,by omega,oF,r+1,by omega,cI<|a6 oM,O⟩
    refine S Z (Yw Z (O.bJ h1) Z) Z<|vQ 1 Z<|kx (Yu Z Z Z) (xS I hv A O) (fun V O=>?_);refine ky Z (an Z) (fun T=>?_) (fun T=>?_)
    ·refine S Z (Yw Z (O.bJ h1) Z) Z<|XP 2 Z<|kx (Yu Z Z Z) (Ug I hv A R O) (fun V O=>?_);refine Xd 5 Z<|aG Z (fun ap=>?_) (fun ap=>?_)
     ·refine af Z ?_;have cr:mr g w r=true:=by rw[qo,show uJ g r=true from F,show bD (.ofNat r) (.ofNat w)=false from Q,show bD (fc g r).kind 4=true from T];exact ap
      refine XS O 2 [2] Z Z (S Z (dP (e:=138) (m:=1) B B Z Z A) Z (S Z (av Z (O.get 3 Z) B<|gM (fG A) (by first | omega | rfl)) Z (vQ 1 Z (S Z (aB (v:=.int .u64 (.ofNat<|bN (nV g) (A0 g w r r) ||| bN (nV g) (ri g w))) Z Z<|Iq (dG oM _)<|dG oM _) Z<|S Z (dP (e:=138) (m:=1) B B Z Z A) Z ?_))));refine fM O (.there (.there (.there .here))) Z (aL Z Z Z (O.get 3 Z) (m:=1) B Z (by rw[lM_];rw[cP];omega) Z (cells':=((cy (nV g)<|A0 g w r).set r<|bN (nV g) (A0 g w r r) ||| bN (nV g) (ri g w)).map (gU)) (ei (f:=gU) (v:=(bN (nV g) (A0 g w r r) ||| bN (nV g) (ri g w))) (by rw[cP];exact A) (by first | omega | rfl))) Z (fun V O=>?_);rw[JZ cr] at O;refine ae<|aD<|XK 4 Z<|aJ ⟨N-1,by omega,oF,r+1,by omega,cI<|a6 oM,O⟩
     refine aH<|aD<|XK 4 Z ?_;have cr:mr g w r=false:=by rw[qo,show uJ g r=true from F,show bD (.ofNat r) (.ofNat w)=false from Q,show bD (fc g r).kind 4=true from T];exact ap
     rw[<-DO cr] at O;refine aJ ⟨N-1,by omega,oF,r+1,by omega,cI<|a6 oM,O⟩
    refine Wp 12 Z<|XK 4 Z ?_;have cr:mr g w r=false:=by rw[qo,show uJ g r=true from F,show bD (.ofNat r) (.ofNat w)=false from Q,show bD (fc g r).kind 4=false from T];rfl
    rw[<-DO cr] at O;refine aJ ⟨N-1,by omega,oF,r+1,by omega,cI<|a6 oM,O⟩
   refine Wp 20 Z<|XK 4 Z ?_;have cr:mr g w r=false:=by rw[qo,show uJ g r=false from F];rfl
   rw[<-DO cr] at O;refine aJ ⟨N-1,by omega,oF,r+1,by omega,cI<|a6 oM,O⟩
  refine Wl 3 Z<|aQ<|aD<|XK 4 Z ?_;have O:=O.pop;have O:=O.pop;have a4:r=nV g:=by have h:nV g<=r:=bI ao;omega
  subst a4;have cw:qq g w=true:=by rw[yB,show bQ (fc g w)=true from dg ac,show bD (fc g w).order 1=false from am];rfl
  rw[Sf cw] at O;refine aJ ⟨j3-1,by omega,oF,w+1,by omega,cI<|a6 oM,O⟩
 refine Wl 3 Z<|aQ<|Xb 2 Z<|S Z (Yw Z (O.bJ h1) Z) Z<|vQ 1 Z ?_;have a5:w=nV g:=by have h:nV g<=w:=bI ab;omega
 subst a5;rw[Se] at O;obtain⟨K2,aa,E,O⟩:=H.bZ (M:=[_,_]) O;have h4:=E _ (mS_ ..);have h3:=E _ (mC_ _<|mS_ ..);clear E;replace hv:=hv.mono aa;have hrw:=fP h3 (cP (nV g) _) oM;refine kw (Yu Z Z Z) (Cg I hv C (fn:=197) (fi:=[]) (ca:=[_]) B (fun i q hi hq V L O=>VA I C hi hq h4 hrw O) O) ?_;rintro _ V ⟨K3,b5,a3,rfl,O⟩;refine gF O Z (YB Z Z Z O.g1 Z) Z (fun V O=>?_);refine Xf 3 Z ?_;exact dy Z Z O.g1 (m:=2) B Z ⟨K3,b5,KP.le_trans W<|KP.le_trans aa a3,Z,O.sub (.cons_cons _ (.cons _ (.refl _)))⟩
variable {es:List eC} {ck:Nat} {ko mo xo:Operand}
section
variable {κ β:Type} [DecidableEq κ]
inductive gm (kf:κ->Y) (vf:β->Y):List eC->List (κ×β)->Prop
 | nil:gm kf vf [] []
 | cons {e:eC} {k:κ} {v:β} {es:List eC} {m:List (κ×β)}:e.key=kf k->e.val=vf v->gm kf vf es m->gm kf vf (e::es) ((k,v)::m)
def D8:List (κ×β)->κ->Nat->Option (Nat×β)
 | [],_,_=>none
 | (k',v)::m,k,i=>if k=k' then some (i,v) else D8 m k (i+1)
def y9:List (κ×β)->κ->β->List (κ×β)
 | [],k,v=>[(k,v)]
 | (k',w)::m,k,v=>if k=k' then(k',v)::m else(k',w)::y9 m k v
theorem E5:∀{m:List (κ×β)} {k:κ} {i:Nat},D8 m k i=none↔∀x∈m,x.1≠k
 | [],k,i=>by simp[D8]
 | (k',v)::m,k,i=>by
  unfold D8
  by_cases h:k=k'
  ·simp[h]
  rw[if_neg h,E5];simp only[mQ_,forall_eq_or_imp];exact⟨fun hh=>⟨fun e=>h e.symm,hh⟩,fun hh=>hh.2⟩
theorem za:∀{m:List (κ×β)} {k:κ} {v:β},(∀x∈m,x.1≠k)->y9 m k v=m++[(k,v)]
 | [],k,v,_=>rfl
 | (k',w)::m,k,v,h=>by
  unfold y9;rw[if_neg fun e=>h (k',w) (mS_ ..) e.symm,za fun x hx=>h x (mC_ _ hx)];rfl
variable {kf:κ->Y} {vf:β->Y}
theorem gm.snoc {m:List (κ×β)} (h:gm kf vf es m) {e:eC} {k:κ} {v:β} (u:e.key=kf k) (h3:e.val=vf v):gm kf vf (es++[e]) (m++[(k,v)]):=by
 induction h with
 | nil=>exact .cons u h3 .nil
 | cons b c d ih=>exact .cons b c ih
theorem gm.put {m:List (κ×β)} (h:gm kf vf es m) {k:κ} {v w:β} {i:Nat}:∀{u:Nat},D8 m k u=some (i,w)->∃j,i=u+j/\∃e,es[j]? =some e/\e.key=kf k/\∀e':eC,e'.key=kf k->e'.val=vf v->gm kf vf (es.set j e') (y9 m k v):=by
 induction h with
 | nil=>intro u hh;cases hh
 | @cons e k' v' es m b c d ih=>
  intro u hh;unfold D8 at hh
  by_cases hk:k=k'
  ·rw[if_pos hk] at hh;cases hh;subst hk;exact⟨0,Z,e,Z,b,fun e' h1 A=>by unfold y9;rw[if_pos Z];exact .cons h1 A d⟩
  rw[if_neg hk] at hh;obtain⟨j,rfl,e2,h1,A,h3⟩:=ih hh;exact⟨j+1,by omega,e2,by simpa using h1,A,fun e' C h5=>by unfold y9;rw[if_neg hk];exact .cons b c<|h3 e' C h5⟩
structure Ec (P:Program) (t kt et:TypeId) (kf:κ->Y) (vf:β->Y) (z:β):Prop where
 ty:P.underlying t=some (.map kt et)
 plain:plainKey P kt=true
 shape:∀k,jL P kt (kf k)=true
 eq:∀a b,lh P kt (kf a) (kf b)=some (decide (a=b))
 same:∀a,sameKey (kf a) (kf a)=true
 zero:fx P et=some (vf z)
variable {P:Program} {G:Cx} {ev:Operand->Option Y} {V:D} {t kt et:TypeId} {z:β}
theorem Jc (u:Ec P t kt et kf vf z) {k:κ} {m:List (κ×β)} (h:gm kf vf es m):∀i,nr P kt (kf k) es i=some ((D8 m k i).map fun x=>(x.1,vf x.2)):=by
 induction h with
 | nil=>intro i;rfl
 | @cons e k' v es m b c d ih=>
  intro i;have hq:lh P kt (kf k) e.key=some (decide (k=k')):=by rw[b];exact u.eq k k'
  show(match lh P kt (kf k) e.key with
   | some true=>some (some (i,e.val))
   | some false=>nr P kt (kf k) es (i+1)
   | none=>none)=_
  rw[hq];unfold D8
  by_cases hk:k=k'
  ·rw[decide_eq_true hk,if_pos hk];simp[c]
  rw[decide_eq_false hk,if_neg hk];exact ih (i+1)
theorem AB (u:Ec P t kt et kf vf z) {b:Nat} {m:List (κ×β)} (hm:gm kf vf es m) (hb:V.m.get b=some (.map es ck)) {k:κ} (h1:ev mo=some (.map b)) (A:ev ko=some (kf k)):
  dM P G ev V (.lookup t mo ko false)= .val (vf (((D8 m k 0).map (·.2)).getD z)) V:=by
 have hf:=Jc u (k:=k) hm 0;refine AE Z ?_;simp only[gG,u.ty,A,h1,hb,u.plain,u.shape k,Bool.and_self,cond_true,hf,u.zero];cases D8 m k 0 with
 | none=>rfl
 | some x=>rfl
theorem UP (u:Ec P t kt et kf vf z) {b:Nat} {m:List (κ×β)} (hm:gm kf vf es m) (hb:V.m.get b=some (.map es ck)) {k:κ} {v:β} (h1:ev mo=some (.map b)) (C:ev ko=some (kf k)) (h3:ev xo=some (vf v)):
  ∃es' ck',dM P G ev V (.mapUpdate t mo ko xo)= .skip (V.setObj b (.map es' ck'))/\gm kf vf es' (y9 m k v):=by
 have hf:=Jc u (k:=k) hm 0
 have key:∃es' ck',kS P V t (.map b) (kf k) (vf v)=some (V.setObj b (.map es' ck'))/\gm kf vf es' (y9 m k v):=by
  unfold kS;rw[u.ty];dsimp only;rw[hb];dsimp only;rw[u.plain,u.shape k];simp only[Bool.and_self,cond_true];rw[hf];cases A:D8 m k 0 with
  | none=>exact⟨_,_,Z,by rw[dU,za<|E5.1 A];exact hm.snoc Z Z⟩
  | some x=>
   obtain⟨i,w⟩:=x;obtain⟨j,hj,e,he,hk,hp⟩:=hm.put (v:=v) A;rw[nA_] at hj;subst hj
   show∃es' ck',(match nth es i with
     | some e=>bif sameKey e.key (kf k) then some (V.setObj b (.map (we {key:=kf k,val:=vf v,born:=e.born} es i) ck)) else none
     | none=>none)=some (V.setObj b (.map es' ck'))/\_
   rw[fL,he];dsimp only;rw[hk,u.same k];exact⟨_,_,Z,by unfold we;rw[r6];exact hp _ Z Z⟩
 obtain⟨es',ck',E,h5⟩:=key;refine⟨es',ck',jV Z ?_,h5⟩;simp only[fX,h1,C,h3,E]
end
section
variable {κ β:Type} [DecidableEq κ] {kf:κ->Y} {vf:β->Y} {z:β}
variable {P:Program} {G:Cx} {n:Nat} {t:PT Y} {V:D} {K:KP} {L:Own} {Q:Ex->PT Y->D->Prop} {ops:Array Oper} {o:Oper} {l:List Oper}
end
variable {lp:List (Nat×List Nat)} {et kt:TypeId}
noncomputable instance idDec:DecidableEq bV:=fun _ _=>Classical.propDecidable _
def Dm (x:bV):Y:=.agg (ints x.ints)
def gN (x:Int):Y:=.int .i64 x
theorem NS:Ec Tryz.prog 244 89 3 Dm gN 0 where
 ty:=by kernel_rfl
 plain:=by kernel_rfl
 shape k:=by
  obtain⟨a,b⟩:=k;show jL Tryz.prog 89 (.agg<|ints [a,b])=true
  kernel_rfl
 eq a b:=by
  obtain⟨fs,hu⟩:=iV rQ.ints
  have:lh Tryz.prog 89 (Dm a) (Dm b)=some (dv a.ints b.ints):=by
   unfold lh Dm;rw[hu];exact ui rQ.ints Z Z
  rw[this,bV.same];rw[show dv a b=decide (a=b) from by rw[zd_,eh,decide_eq_true_iff]]
 same a:=by
  obtain⟨a,c⟩:=a;show oc (ints [a,c]) (ints [a,c])=true;exact nD _
 zero:=by kernel_rfl
def xp (l:List bV) (m:List (bV×Int)):Prop:=m.length=l.length/\∀n id,l[n]? =some id->m[n]? =some (id,Int.ofNat n)
theorem xp.nil:xp [] []:=⟨Z,fun n id h=>by simp at h⟩
theorem xp.mem {l:List bV} {m:List (bV×Int)} (h:xp l m) {x:bV×Int} (hx:x∈m):x.1∈l:=by
 obtain⟨n,hn⟩:=gO_ hx;have hl:=(gA.1 hn).1;rw[h.1] at hl;obtain⟨id,u⟩:=da hl;have:=h.2 n id u
 grind
theorem xp.put {l:List bV} {m:List (bV×Int)} (h:xp l m) {id:bV} (hn:id∉l):xp (l++[id]) (y9 m id (.ofNat l.length)):=by
 rw[za fun x hx e=>hn (by rw[<-e];exact h.mem hx)];refine⟨by simp[h.1],fun n x hx=>?_⟩;rw[List.getElem?_append] at hx⊢;rw[h.1]
 by_cases hl:n<l.length
 ·rw[if_pos hl] at hx⊢;exact h.2 n x hx
 grind
theorem xp.get {l:List bV} {m:List (bV×Int)} (h:xp l m) (hd:∀(i j:Nat) (x:bV),l[i]? =some x->l[j]? =some x->i=j) {n:Nat} {id:bV} (hn:l[n]? =some id):((D8 m id 0).map (·.2)).getD 0= .ofNat n:=by
 have key:∀(m:List (bV×Int)) (k:Nat),(∀(i:Nat) (x:bV×Int),m[i]? =some x->x.1=id->x.2= .ofNat n)->(∃x∈m,x.1=id)->((D8 m id k).map (·.2)).getD 0= .ofNat n:=by
  intro m;induction m with
  | nil=>simp_all
  | cons x m ih=>
   intro k h1 h2;obtain⟨a,v⟩:=x;unfold D8
   by_cases e:id=a
   ·rw[if_pos e];exact h1 0 (a,v) Z e.symm
   rw[if_neg e];refine ih (k+1) (fun i x hx=>h1 (i+1) x (by simpa using hx)) ?_
   grind
 refine key m 0 (fun i x hx he=>?_) ⟨_,gB_<|h.2 n id hn,Z⟩;have hl:=(gA.1 hx).1;rw[h.1] at hl;obtain⟨y,hy⟩:=da hl;have:=h.2 i y hy
 grind
theorem Jj {g:XG} {l:List bV} {id:bV} {r:List bV} (h:jY g=l++id::r):id∉l:=fun hm=>by
 have hp:=N4 (g:=g)
 grind
theorem N0 {g:XG} {i:Nat} (h:i<g.init.length):∃r,jY g=jc g i 0 0++(⟨0,.ofNat i⟩:bV)::r:=by
 obtain⟨d,u⟩:∃d,g.init.length=i+1+d:=⟨g.init.length-(i+1),by omega⟩;unfold jY jc;rw[u,List.range_add,List.range_succ];refine⟨((List.range d).map (i+1+ ·)).map (fun i=>(⟨0,.ofNat i⟩:bV))++kA g.threads 0,?_⟩
 simp[kA]
theorem N2 {g:XG} {t k:Nat} {row:List bW} (h:g.threads[t]? =some row) (hk:k<row.length):∃r,jY g=jc g g.init.length t k++(⟨.ofNat (t+1),.ofNat k⟩:bV)::r:=by
 obtain⟨r,u⟩:=zi (s:=0) h hk;rw[nA_] at u;unfold jY jc
 simp_all
section
variable {P:Program} {G:Cx} {K:KP} {n:Nat} {t:PT Y} {V:D} {ops:Array Oper} {o:Oper} {Q:Ex->PT Y->D->Prop} {κ β:Type} [DecidableEq κ] {kf:κ->Y} {vf:β->Y} {z:β}
theorem Uf {ty:TypeId} (E:Ec P ty kt et kf vf z) {b i:Nat} {m:List (κ×β)} {A:Own} (hm:gm kf vf es m) (F:H V K A) (hb:V.m.get b=some (.map es ck)) (C:cd->Own) (hu:∀o',lq b o' A<|C o') {k:κ} {v:β} {t':PT Y} (u:ops[i]? =some o) (hw:bH ops t o=some true) (I:o.op= .mapUpdate ty mo ko xo)
  (h1:bA G t mo=some (.map b)) (L:bA G t ko=some (kf k)) (h3:bA G t xo=some (vf v)) (hp:dA t n o.dst unit=some t')
  (h:∀V' es' ck',H V' K (C (.map es' ck'))->gm kf vf es' (y9 m k v)->cS P G ops n lp t' V' Q):cS P G ops n ((i,[])::lp) t V Q:=by
 obtain⟨es',ck',e1,e2⟩:=UP (G:=G) E hm hb h1 L h3;exact fD F (hu _) u hw (by rw[I];exact e1) hp fun V' O=>⟨aY,h V' es' ck' O e2⟩
end
theorem Kl (n:Nat):dV.beqL ((List.replicate n (0:Int)).map gN) ((List.replicate n (0:Int)).map gN)=true:=by
 induction n with
 | zero=>rfl
 | succ n ih=>exact ey (im _ _) ih
theorem ux {K:KP} {l:List Int} {b n:Nat} {ro:Bool} (h:K b (.row (l.map gN) e ro)) (hn:l.length=n) (hle:n<=1000000):bG K 1 dB l (.slice b 0 n (.known n)):=by
 subst hn;refine .inr ⟨b,0,_,_,e,ro,Z,.inr ⟨_,Z,nR_ _⟩,h,by simp,by omega,fun i x hx=>?_⟩;obtain⟨h1,u⟩:=gA.1 hx;have h3:i<(l.map gN).length:=by simp_all
 show((l.map gN).drop (0+i*1)).take 1= [gN x];rw[nA_,Nat.mul_one,zj_ h3,List.getElem_map,u];rfl
theorem JL {N i:Nat} {f:Nat->Int} {v:Int}:((List.range N).map f).set i v=(List.range N).map fun k=>if k=i then v else f k:=by
 refine zf_ fun k=>?_
 grind
section
variable {g:XG}
def k9 (g:XG) (i:Nat):List Int:=(List.range<|nV g).map fun k=>if k<i then gu g k else 0
def qS (g:XG) (i:Nat):List Int:=(List.range<|nV g).map fun k=>if k<i then(bif bD (gD g k).bM 0 then 0 else-1) else 0
theorem rL {i:Nat}:(k9 g i).length=nV g:=by unfold k9;simp
theorem uF {i:Nat}:(qS g i).length=nV g:=by unfold qS;simp
theorem Hl:k9 g 0=List.replicate (nV g) 0:=by
 refine zf_ fun k=>?_
 unfold k9
 grind
theorem LJ:qS g 0=List.replicate (nV g) 0:=by
 refine zf_ fun k=>?_
 unfold qS
 grind
theorem y8 {i:Nat}:(k9 g i).set i (gu g i)=k9 g (i+1):=by
 unfold k9;rw[JL]
 grind
theorem Cl {i:Nat}:(qS g i).set i (bif bD (gD g i).bM 0 then 0 else-1)=qS g (i+1):=by
 unfold qS;rw[JL]
 grind
theorem KZ:k9 g (nV g)=(List.range<|nV g).map (gu g):=by
 unfold k9
 simp_all
theorem OT:qS g (nV g)=gi g 0 0:=by
 rw[HW];unfold qS
 simp_all
theorem Hk {i:Nat} {f:Int} (h:gu g i=f):((k9 g i).set i (-1)).set i f=k9 g (i+1):=by rw[List.set_set,<-h,y8]
theorem y5 {i:Nat} (h:gu g i= -1):(k9 g i).set i (-1)=k9 g (i+1):=by rw[<-h,y8]
theorem LI {i:Nat} (h:bD (gD g i).bM 0=true):((qS g i).set i (-1)).set i 0=qS g (i+1):=by rw[List.set_set,<-Cl,h];rfl
theorem Ck {i:Nat} (h:bD (gD g i).bM 0=false):(qS g i).set i (-1)=qS g (i+1):=by rw[<-Cl,h];rfl
end
variable {bv:Nat} {M:Own} {vb vc vd:Y}
theorem S4 (T:Plain G) {F I bm:Nat} (h3:K bv (.row [.ptr F 0] 226 false)) (h5:K bm (.row [.map I] 244 false)) {id:bV} {e:bW} {ids:List bV} {mB:List bW} {ev:Y} {M1:Own} {m:List (bV×Int)} (hm:gm Dm gN es m) (hO1:cO 2 89 fj ids iv M1) (hO2:cO 5 40 iN mB ev M) (aa:ids.length<=1000) (ab:mB.length<=1000)
  {V:D} {L:Own} (O:H V K (M1++(M++((F,.row [iv,ev,.aw,.aw] 243 false)::(I,.map es ck)::L)))):
  EC G 182 [.agg [.int .i64 id.bM,.int .i64 id.index],.agg [.int .i64 e.kind,.int .i64 e.loc,.int .i64 e.order,.int .i64 e.read,.int .i64 e.write],.ptr bv 0,.ptr bm 0] V fun _ V'=>∃iv' ev' u A es' ck',gm Dm gN es' (y9 m id (.ofNat ids.length))/\cO 2 89 fj (ids++[id]) iv' u/\cO 5 40 iN (mB++[e]) ev' A/\H V' K (u++(A++((F,.row [iv',ev',.aw,.aw] 243 false)::(I,(.map es' ck'))::L))):=by
 refine XD T Tryz.func182 Z<|Xb 2 Z<|kb O (cL Z Z) (fun V b3 O=>?_);refine kb O (cL Z Z) (fun V b4 O=>?_);refine Wn 3 Z<|aU (l:=zp [0,1,2,3,4,5,6,7]) B B<|ah Z Z (Yw Z (O.bJ h5) Z) Z<|ah Z Z (YE Z O.g1 Z) Z<|ah Z Z (Yw Z (O.bJ h3) Z) Z<|ah Z Z (cV Z) Z<|ah Z Z (Yv 0 Z) Z<|ah Z Z (Yw Z O.pop.pop.cF.cF.g0 Z) Z<|ah Z Z (D6 hO1 Z Z Z (e:=89) B Z) Z<|Uf NS hm O O.pop.pop.cF.cF.pop.g0 _ (fun o'=>.there (.there (.dz (.dz (.there .here))))) (k:=id) (v:=.ofNat ids.length) Z Z Z Z Z Z Z (fun V es ck O hm=>?_);refine Xg 2 Z (ai (aU (l:=[(0,[]),(1,[]),(2,[]),(3,[]),(4,[]),(5,[]),(6,[]),(7,[0]),(8,[]),(9,[]),(10,[])]) B B<|ah Z Z (Yw Z (O.bJ h3) Z) Z<|ah Z Z (Yw Z (O.bJ h3) Z) Z<|ah Z Z (cV Z) Z<|ah Z Z (Yv 0 Z) Z<|ah Z Z (Yw Z O.pop.pop.cF.cF.g0 Z) Z<|ah Z Z (YE Z O.g1 Z) Z<|nN O Z Z (cM (e:=89) (m:=2) (z:=[iZ,iZ]) (cs:=[_,_]) B B B B<|bn Z Z Z Z cD) (fun _=>Z) (fun V b5 O=>?_)));replace O:=O.pull (.there (.there (.there<|bu.here (X:=M1))));replace O:=O.pull (.dz<|bu.here (X:=[_]));rw[za_] at O;refine mN (R:=fj) (m:=2) (e:=89) hO1 O (fQ (m:=2) Z (show fj id _ from Z)) fj.leaf (by show _+1<=_;omega) Z Z Z Z Z Z Z Z (fun _=>Z) (fun V N C hO20 O=>?_);refine⟨(bx (bC Z Z Z Z Z (Yw Z (O.bJ h3) Z)<|qf _ _) aY),?_⟩;refine ah Z Z (cV Z) Z<|ah Z Z (Yv 0 Z) Z<|fD O (.dz (.there (.there (.dz .here)))) Z Z (aL Z Z hO20.leaf.1 O.cF.pop.pop.cF.g0 (m:=1) B Z (lb Z) (aj hO20.leaf.2 aC) (cells':=[_,_,_,_]) Z) Z (fun V O=>?_);refine⟨aY,?_⟩;refine Xg 2 Z (aU (l:=[(0,[]),(1,[]),(2,[]),(3,[]),(4,[]),(5,[]),(6,[]),(7,[0]),(8,[]),(9,[]),(10,[])]) B B<|ah Z Z (Yw Z (O.bJ h3) Z) Z<|ah Z Z (Yw Z (O.bJ h3) Z) Z<|ah Z Z (cV Z) Z<|ah Z Z (Yv 1 Z) Z<|ah Z Z (Yw Z O.cF.pop.pop.cF.g0 Z) Z<|ah Z Z (YG Z O.cF.g0 Z) Z<|nN O Z Z (cM (e:=40) (m:=5) (z:=[iZ,iZ,iZ,iZ,iZ]) (cs:=[_,_,_,_,_]) B B B B<|bn Z Z Z Z cD) (fun _=>Z) (fun V b6 O=>?_));replace O:=O.pull (.there (.dz (.there (.there<|bu.here (X:=M)))));replace O:=O.pull (.dz<|bu.here (X:=[_]));rw[za_] at O;refine mN (R:=iN) (m:=5) (e:=40) hO2 O (fQ (m:=5) Z (show iN e _ from Z)) iN.leaf (by show _+1<=_;omega) Z Z Z Z Z Z Z Z (fun _=>Z) (fun V Q E hO30 O=>?_);refine⟨(bx (bC Z Z Z Z Z (Yw Z (O.bJ h3) Z)<|qf _ _) aY),?_⟩
 refine ah Z Z (cV Z) Z<|ah Z Z (Yv 1 Z) Z<|fD O (.dz (.dz (.there (.there .here)))) Z Z (aL Z Z hO30.leaf.1 O.cF.cF.pop.pop.g0 (m:=1) B Z (lb Z) (aj hO30.leaf.2 aC) (cells':=[_,_,_,_]) Z) Z (fun V O=>?_);refine⟨aY,?_⟩;refine a8 ?_;replace O:=O.pull (.dz (.dz (.there (.there (.there<|bu.here (X:=[_]))))));rw[za_] at O;replace O:=O.pull (.there (.dz (.dz (.there (.there<|bu.here (X:=[_]))))));rw[za_] at O;replace O:=O.pull (.there (.there<|bu.here (X:=E)));replace O:=O.pull (.dz (.there (.there<|bu.here (X:=C))));replace O:=O.sub (fR<|fR (.cons_cons _ (.cons_cons _ (.cons _ (.cons _ (.refl _))))));exact⟨.inl Z,_,Z,N,Q,C,E,es,ck,hm,hO20,hO30,O⟩
theorem OM (hG:Plain G) (hg:eS K g va vb vc vd) (O:H V K L):
  EC G 162 [.agg [va,vb,vc,vd]] V fun v V'=>(bD (eu g) 0=false/\v= .tuple [.nilPtr,.bool false]/\H V' K L)∨(eE g/\∃K1 b iv ev fv pv,v= .tuple [.ptr b 0,.bool true]/\KP.le K K1/\lH K1 g b iv ev fv pv/\H V' K1 L):=by
 refine XD hG Tryz.func162 Z<|Xb 2 Z<|kb O (cL Z Z) (fun V b1 O=>?_);refine VE 7 Z<|S Z (YF Z O.g0 Z) Z<|kx (Yu Z Z Z) (Sm hG hg O) (fun V O=>?_);refine Xd 3 Z<|aG Z (fun a5=>?_) (fun a5=>?_)
 ·refine Xc 8 Z ?_;exact⟨.inr Z,_,qX Z Z Z,.inl ⟨eb a5,Z,O.pop⟩⟩
 refine Wk 4 Z ?_;have hR:=hJ.1 (UX<|dg a5);have hvl:=wX hR;refine S Z (Yt (places:=[(0,1),(1,1),(2,1),(3,1)]) (zero:=[.aw,.aw,.aw,.aw]) (cs:=[_,_,_,_]) Z) Z<|kb O (cL Z Z) (fun V b2 O=>?_);refine kb O (Yy (cs:=[.nilPtr])) (fun V b3 O=>?_);refine ks O (UM Z Z Z O.g0 (m:=1) Z Z (cells':=[_]) Z) (fun V O=>?_);refine Wo 4 Z<|S3 O Z CJ (fun _=>Z) (fun V b4 O=>?_);refine kb O (Yy (cs:=[.iy])) (fun V b5 O=>?_);refine ks O (UM Z Z Z O.g0 (m:=1) Z Z (cells':=[_]) Z) (fun V O=>?_);refine Wo 4 Z ?_;replace O:=O.pull (.there<|bu.here (X:=[_]));rw[za_] at O;replace O:=O.pull (.there (.there (.there<|bu.here (X:=[_]))));rw[za_] at O;replace O:=O.pull (.there (.there (.there (.there<|bu.here (X:=[_])))));rw[za_] at O;replace O:=O.pull (.there (.there (.there (.there<|bu.here (X:=[_])))));rw[za_] at O;replace O:=O.pull (.there (.there (.there (.there<|bu.here (X:=[_])))));rw[za_] at O;obtain⟨K1,ax,u,O⟩:=O.bZ (M:=[_,_,_]);have h5:=u _ (mS_ ..);have h3:=u _ (mC_ _<|mS_ ..);have hb:=u _ (mC_ _<|mC_ _<|mS_ ..);clear u;replace hg:=hg.mono ax;refine VF O 8 [0] Z Z (S Z (Yw Z (O.bJ hb) Z) Z (S Z (Yx hg.init Z Z Z (e:=2) Z) Z (Wm 4 Z (bq ([7,8]++rg 29 13) (fun j t V=>∃(i:Nat) (iv ev:Y) (M1 R:Own) (es:List eC) (ck:Nat) (m:List (bV×Int)),j+i=g.init.length/\gm Dm gN es m/\xp (jc g i 0 0) m/\cO 2 89 fj (jc g i 0 0) iv M1/\cO 5 40 iN ((jc g i 0 0).map fun id=>xw (gf g id)) ev R/\t.get 29=some (nI i)/\H V K1 (M1++(R++((b2,.row [iv,ev,.aw,.aw] 243 false)::(b4,.map es ck)::L)))) (g.init.length) ⟨0,.aw,.aw,[],[],[],0,[],Z,.nil,.nil,.inl ⟨Z,Z,Z⟩,.inl ⟨Z,Z,Z⟩,Z,O⟩ ?_))));clear O;intro j7 t V ar hI;obtain⟨i,iv,ev,M1,R,es,ck,m,f1,hm,hn,hO1,hO2,bR,O⟩:=hI;obtain⟨oo,rfl⟩:=ar.q1 bR Z;refine Xa 6 Z<|aG Z (fun ap=>?_) (fun ap=>?_)
 ·refine UY 7 Z ?_;obtain⟨bS,aE,ea⟩:=dh ap;refine Yp (e:=2) (m:=1) hg.init aE Z Z Z Z (fun f2 ee bY ef b0=>?_);obtain rfl:=b0;refine S Z (Yz O bY Z Z) Z (Xe 7 Z (S Z (Yt (places:=[(0,1),(1,1)]) (zero:=[iZ,iZ]) (cs:=[_,_]) Z) Z (XP 2 Z (S Z (Yt (places:=[(0,1),(1,1),(2,1),(3,1),(4,1)]) (zero:=[iZ,iZ,iZ,iZ,iZ]) (cs:=[_,_,_,_,_]) Z) Z ?_))));have hil:=aS ap;have hle:=Fb hR (i:=i) (t:=0) (k:=0) (by have:=hR.init;omega) oM oM;obtain⟨r0,a9⟩:=N0 hil;have ba:gf g ⟨0,.ofNat i⟩=some ⟨2,.ofNat i,1,0,bS⟩:=by show(g.init[i]?).map _=_;rw[aE];rfl
  refine kw (Yu Z Z Z) (S4 hG h3 h5 (id:=⟨0,.ofNat i⟩) (e:=⟨2,.ofNat i,1,0,bS⟩) hm hO1 hO2 oM (by rw[lM_];omega) O) ?_;rintro f3 V ⟨iv',ev',bb,bc,es',ck',bd,hO1',hO2',O⟩;have hn2:=hn.put (Jj a9);refine ae<|aD<|XK 4 Z<|aJ ⟨j7-1,by omega,oF,i+1,iv',ev',bb,bc,es',ck',_,by omega,bd,(Hq ▸ hn2),(Hq ▸ hO1'),(by rw[<-Hq,List.map_append];show cO 5 40 iN (_++[xw<|gf g _]) _ _;rw[ba];exact hO2'),cI<|a6 (by have:=hR.init;omega),O⟩
 refine Wl 3 Z<|aQ<|Wt O 4 [1] Z Z<|S Z (Yw Z (O.bJ hb) Z) Z<|S Z (Yx hg.threads Z Z Z (e:=41) Z) Z<|Wm 4 Z ?_;have be:i=g.init.length:=by have:=bI ap;omega
 subst be;refine bq (rg 9 4++rg 45 21) (fun j t V=>∃(tt:Nat) (iv ev:Y) (M1 R:Own) (es:List eC) (ck:Nat) (m:List (bV×Int)),j+tt=g.threads.length/\gm Dm gN es m/\xp (jc g g.init.length tt 0) m/\cO 2 89 fj (jc g g.init.length tt 0) iv M1/\cO 5 40 iN ((jc g g.init.length tt 0).map fun id=>xw (gf g id)) ev R/\t.get 45=some (nI tt)/\H V K1 (M1++(R++((b2,.row [iv,ev,.aw,.aw] 243 false)::(b4,.map es ck)::L)))) (g.threads.length) ⟨0,iv,ev,M1,R,es,ck,m,Z,hm,hn,hO1,hO2,Z,O⟩ ?_;clear O;intro c2 t V ar hI;obtain⟨tt,iv,ev,M1,R,es,ck,m,eg,hm,hn,hO1,hO2,b9,O⟩:=hI;obtain⟨oo,rfl⟩:=ar.q1 b9 Z;refine Xa 6 Z<|aG Z (fun ab=>?_) (fun ab=>?_)
 ·refine UY 7 Z ?_;obtain⟨ac,C,el⟩:=dh ab;refine Yp (e:=41) (m:=1) hg.threads C Z Z Z Z (fun f4 em ca en cb=>?_);have hr48':=cb;obtain⟨f5,rfl,a0⟩:=hr48';refine S Z (Yz O ca Z Z) Z (Wo 7 Z (S Z (Yx a0 Z Z Z (e:=40) Z) Z (Wm 4 Z (bq ([11,12]++rg 52 13) (fun j t V=>∃(kk:Nat) (iv ev:Y) (M1 R:Own) (es:List eC) (ck:Nat) (m:List (bV×Int)),j+kk=ac.length/\gm Dm gN es m/\xp (jc g g.init.length tt kk) m/\cO 2 89 fj (jc g g.init.length tt kk) iv M1/\cO 5 40 iN ((jc g g.init.length tt kk).map fun id=>xw (gf g id)) ev R/\t.get 52=some (nI kk)/\H V K1 (M1++(R++((b2,.row [iv,ev,.aw,.aw] 243 false)::(b4,.map es ck)::L)))) (ac.length) ⟨0,iv,ev,M1,R,es,ck,m,Z,hm,hn,hO1,hO2,Z,O⟩ ?_))));clear O;intro c3 t V ar hI;obtain⟨kk,iv,ev,M1,R,es,ck,m,eq,hm,hn,hO1,hO2,cc,O⟩:=hI;obtain⟨oo,rfl⟩:=ar.q1 cc Z;refine Xa 6 Z<|aG Z (fun aq=>?_) (fun aq=>?_)
  ·refine UY 7 Z ?_;obtain⟨x55,a1,er⟩:=dh aq;refine Yp (e:=40) (m:=5) a0 a1 Z Z Z Z (fun f6 et ce ex ch=>?_);obtain rfl:=ch;refine S Z (YA O ce Z Z) Z<|kb O (Yy (cs:=[iZ,iZ,iZ,iZ,iZ])) (fun V b6 O=>?_);refine vQ 1 Z<|ks O (YD Z Z Z O.g0 Z) (fun V O=>?_);refine Xe 5 Z (S Z (aB (v:=nI (tt+1)) Z Z<|cI<|a6 (by have:=hg.threads.cQ;have:=aS ab;omega)) Z (vQ 1 Z (S Z (Yt (places:=[(0,1),(1,1)]) (zero:=[iZ,iZ]) (cs:=[_,_]) Z) Z<|S Z (YG Z O.g0 Z) Z ?_)));replace O:=O.sub (.cons _<|fR<|fR (.cons_cons _ (.cons_cons _ (.refl _))));have hkl:=aS aq;have htl:=aS ab;have hle:=Fb hR (i:=g.init.length) (t:=tt) (k:=kk) hR.init (by have:=hR.short tt ac C;omega) (by have:=hR.threads;omega);obtain⟨r0,a9⟩:=N2 C hkl;have ba:gf g ⟨.ofNat (tt+1),.ofNat kk⟩=some x55:=by rw[mA,C];exact a1
   refine kw (Yu Z Z Z) (S4 hG h3 h5 (id:=⟨.ofNat (tt+1),.ofNat kk⟩) (e:=x55) hm hO1 hO2 oM (by rw[lM_];omega) O) ?_;rintro f7 V ⟨iv',ev',bb,bc,es',ck',bd,hO1',hO2',O⟩;have hn2:=hn.put (Jj a9);refine ae<|aD<|XK 4 Z<|aJ ⟨c3-1,by omega,oF,kk+1,iv',ev',bb,bc,es',ck',_,by omega,bd,(Dj ▸ hn2),(Dj ▸ hO1'),(by rw[<-Dj,List.map_append];show cO 5 40 iN (_++[xw<|gf g _]) _ _;rw[ba];exact hO2'),cI<|a6 (by have:=hR.short tt ac C;omega),O⟩
  refine Wl 3 Z<|aQ<|aD<|XK 4 Z ?_;have htl:=aS ab;have c4:kk=ac.length:=by have:=bI aq;omega
  subst c4;rw[N3 C] at hn hO1 hO2;refine aJ ⟨c2-1,by omega,oF,tt+1,iv,ev,M1,R,es,ck,m,by omega,hm,hn,hO1,hO2,cI<|a6 (by have:=hR.threads;omega),O⟩
 refine Wl 3 Z (aQ (ad (ai (aU (l:=[(0,[]),(1,[]),(2,[]),(3,[]),(4,[]),(5,[]),(6,[]),(7,[]),(8,[]),(9,[]),(10,[]),(11,[]),(12,[]),(13,[]),(14,[]),(15,[]),(16,[1,13]),(17,[]),(18,[]),(19,[])]) B B ?_))));have c5:g.threads.length<=tt:=bI ab;rw[Fa c5] at hn hO1 hO2;obtain⟨K2,ci,cl,O⟩:=O.bZ (M:=M1);obtain⟨K3,a2,cn,O⟩:=O.bZ (M:=R);have I:bG K3 2 fj (jY g) iv:=hO1.gB fun y hy=>a2 _ _ (cl y hy)
 have a3:bG K3 5 iN (NI g) ev:=hO2.gB fun y hy=>cn y hy
 have hle23:=KP.le_trans ci a2;replace h5:=hle23 _ _ h5;replace h3:=hle23 _ _ h3;replace hb:=hle23 _ _ hb;replace hg:=hg.mono hle23;clear cl cn;refine ah Z Z (Yw Z (O.bJ h3) Z) Z (ah Z Z (Yw Z (O.bJ h3) Z) Z (ah Z Z (Yw Z (O.bJ h3) Z) Z (ah Z Z (cV Z) Z (XT O 2 [0,0] Z Z (ah Z Z (Yx I Z Z Z (e:=89) Z) Z (nN O Z Z (gT (e:=3) (w:=8) (z:=[gN (0:Int)]) B B B B (show _=some (Y.int .i64 (.ofNat<|nV g)) from Z) (show _=some (Y.int .i64 (.ofNat<|nV g)) from Z) oM oM) (fun _=>Z) (fun V b6 O=>?_)))))));rw[gp (f:=gN)] at O;refine ah Z Z (Yw Z (O.bJ h3) Z) Z (ah Z Z (cV Z) Z (XT O 2 [0,1] Z Z (ah Z Z (Yx I Z Z Z (e:=89) Z) Z (nN O Z Z (gT (e:=3) (w:=8) (z:=[gN (0:Int)]) B B B B (show _=some (Y.int .i64 (.ofNat<|nV g)) from Z) (show _=some (Y.int .i64 (.ofNat<|nV g)) from Z) oM oM) (fun _=>Z) (fun V b7 O=>?_)))));rw[gp (f:=gN)] at O;refine ah Z Z (cV Z) Z<|ah Z Z (Yv 2 Z) Z<|OK O Z Z (UM Z Z Z (O.get 2 Z) (m:=1) Z Z (cells':=[_,_,_,_]) Z) Z (fun V O=>?_);refine⟨(bx (bC Z Z Z Z Z (Yw Z (O.bJ h3) Z)<|qf _ _) (bx (Px Z Z Z Z Z ((Ek (e:=3) (w:=8) (z:=[gN (0:Int)]) B B B B (show _=some (Y.int .i64 (.ofNat<|nV g)) from Z) (show _=some (Y.int .i64 (.ofNat<|nV g)) from Z) oM oM).trans (by rw[gp (f:=gN)])) O.g0<|Kl _) aY)),?_⟩;refine ah Z Z (cV Z) Z<|ah Z Z (Yv 3 Z) Z<|OK O Z Z (UM Z Z Z (O.get 2 Z) (m:=1) Z Z (cells':=[_,_,_,_]) Z) Z (fun V O=>?_);refine⟨aY,?_⟩;refine Xg 2 Z<|Wi 3 Z ?_;replace O:=O.pull (.there (.there (.there<|bu.here (X:=[_]))));rw[za_] at O;replace O:=O.pull (.there (.there<|bu.here (X:=[_])));rw[za_] at O;replace O:=O.pull (.there (.there<|bu.here (X:=[_])));rw[za_] at O;replace O:=O.pull (.there (.there (.there<|bu.here (X:=[_]))));rw[za_] at O;replace O:H V K3 ((b2,.row [iv,ev,.slice b6 0 (nV g) (.known<|nV g),.slice b7 0 (nV g) (.known<|nV g)] 243 false)::(b7,.row ((qS g 0).map gN) 3 false)::(b6,.row ((k9 g 0).map gN) 3 false)::(b4,.map es ck)::L):=by rw[LJ,Hl];exact O
 refine S Z (Yw Z (O.bJ h3) Z) Z (S Z (cV Z) Z (XS O 2 [0,0] Z Z (S Z (Yx I Z Z Z (e:=89) Z) Z (Wm 4 Z (bq ([13,14]++rg 89 49) (fun j t V=>∃(i:Nat),j+i=nV g/\t.get 89=some (nI i)/\H V K3 ((b2,.row [iv,ev,.slice b6 0 (nV g) (.known<|nV g),.slice b7 0 (nV g) (.known<|nV g)] 243 false)::(b7,.row ((qS g i).map gN) 3 false)::(b6,.row ((k9 g i).map gN) 3 false)::(b4,.map es ck)::L)) (nV g) ⟨0,Z,Z,O⟩ ?_)))));clear O;intro bf t V ar hI;obtain⟨i,ez,co,O⟩:=hI;obtain⟨oo,rfl⟩:=ar.q1 co Z;refine Xa 6 Z<|aG Z (fun bg=>?_) (fun bg=>?_)
 ·refine UY 6 Z ?_;have A:i<nV g:=aS bg;refine vQ 1 Z<|Yp (e:=89) (m:=2) I (jd A) Z Z Z Z (fun f8 e0 cp e3 cr=>?_);obtain rfl:=cr;refine S Z (YA O cp Z Z) Z<|kb O (Yy (cs:=[iZ,iZ])) (fun V b8 O=>?_);refine vQ 1 Z<|ks O (YB Z Z Z O.g0 Z) (fun V O=>?_);refine Wn 3 Z (aU (l:=zp [0,1,2,3,4,5,6,7,8,9,10,11,12,13]) B B (ah Z Z (Yw Z (O.bJ h3) Z) Z (ah Z Z (cV Z) Z (XT O 3 [2,1] Z Z (ah Z Z (Yw Z (O.bJ h3) Z) Z (ah Z Z (cV Z) Z (XT O 3 [3,1] Z Z (ah Z Z (dP (e:=3) (m:=1) B B Z Z A) Z (fD O (.there (.there (.there .here))) Z Z (aL Z Z Z (O.get 3 Z) (m:=1) B Z (by rw[lM_];rw[rL];omega) Z (cells':=((k9 g i).set i (-1)).map (gN)) (ei (f:=gN) (v:=(-1)) (by rw[rL];exact A) (by first | omega | rfl))) Z (fun V O=>?_))))))))));refine⟨aY,?_⟩;refine ah Z Z (dP (e:=3) (m:=1) B B Z Z A) Z (fD O (.there (.there .here)) Z Z (aL Z Z Z (O.get 2 Z) (m:=1) B Z (by rw[lM_];rw[uF];omega) Z (cells':=((qS g i).set i (-1)).map (gN)) (ei (f:=gN) (v:=(-1)) (by rw[uF];exact A) (by first | omega | rfl))) Z (fun V O=>?_));refine⟨aY,?_⟩;refine Xg 2 Z<|Xb 2 Z<|XS O 3 [0,0] Z Z<|Xd 2 Z<|aG Z (fun N=>?_) (fun N=>?_)
  ·refine af Z (S Z (Yw Z (O.bJ h3) Z) Z (S Z (cV Z) Z (XS O 3 [3,1] Z Z (S Z (dP (e:=3) (m:=1) B B Z Z A) Z (fM O (.there (.there .here)) Z (aL Z Z Z (O.get 2 Z) (m:=1) B Z (by rw[lM_];rw[zg_,uF];omega) Z (cells':=(((qS g i).set i (-1)).set i 0).map (gN))<|ei (f:=gN) (v:=0) (by rw[zg_,uF];exact A) (by first | omega | rfl)) Z (fun V O=>?_))))));refine ae<|aD<|XK 4 Z ?_;have O:=O.pop;rw[LI N,y5<|tu<|EY A N] at O;refine aJ ⟨bf-1,by omega,oF,i+1,by omega,cI<|a6 oM,O⟩
  refine Xb 2 Z<|S Z (Yw Z (O.bJ h3) Z) Z<|vQ 1 Z ?_;replace O:=O.pull (.there<|bu.here (X:=[_]));rw[za_] at O;have hst0:=O;have hstk:=H.keeps (M:=[_]) O;refine kx (Yu Z Z Z) ((FA hG (.inr<|mS_ ..) (a3.mono (KP.cR _ _) fun _ _ h=>h) A hstk).mono fun v V' h=>⟨h.1,H.lj (M:=[_]) hst0 h.2⟩) (fun V O=>?_);rw[za_] at O;replace O:=O.pull (.there<|bu.here (X:=[_]));rw[za_] at O;refine Xd 2 Z<|aG Z (fun W=>?_) (fun W=>?_)
  ·refine aU (l:=zp [0,1,2,3,4,5,6,7,8,9,10,11,12,13,14,15,16,17,18,19]) B B ?_;obtain⟨t2,k2,e4,e2,frow,q,d1,d2,d3,d4,d5,d6,d7,_⟩:=SV hR A W;obtain⟨fn,e5,cv,cw⟩:=NR hR A W;have c7:gu g i=((D8 m q 0).map (·.2)).getD 0:=by rw[cv,hn.get (fun i j x h1 h2=>uy h1 h2) (by rw[cw,d7])]
   refine ah Z Z (Yw Z (O.bJ h3) Z) Z (ah Z Z (cV Z) Z (XT O 3 [2,1] Z Z (ah Z Z (Yw Z (O.bJ h5) Z) Z (ah Z Z (Yv 2 Z) Z (ah Z Z (Yw Z (O.bJ hb) Z) Z (XT O 2 [0,0] Z Z (ah Z Z (aB (v:=nI t2) Z Z (by rw[d1];exact cI (gy (by have:=(gA.1 d2).1;have:=hR.threads;omega)))) Z<|Yq (e:=57) (m:=1) hg.from_ d5 Z Z Z Z Z (fun e7 c8 bi c9 bl=>?_))))))));have hr129':=bl;obtain⟨e8,rfl,bm⟩:=hr129';refine ah Z Z (Yz O bi Z Z) Z<|XT O 2 [1,0] Z Z<|Yq (e:=89) (m:=2) bm d6 Z Z Z Z (cI<|congrArg bV.index d1) (fun e9 dd bo df bp=>?_);obtain rfl:=bp;refine ah Z Z (YA O bo Z Z) Z<|ah Z Z (AB NS hm (O.get 4 Z) (k:=q) Z Z) Z<|ah Z Z (dP (e:=3) (m:=1) B B Z Z A) Z ?_;refine fD O (.there (.there (.there .here))) Z Z (aL Z Z Z (O.get 3 Z) (m:=1) B Z (by rw[lM_];rw[zg_,rL];omega) Z (cells':=(((k9 g i).set i (-1)).set i (((D8 m q 0).map (·.2)).getD 0)).map (gN)) (ei (f:=gN) (v:=(((D8 m q 0).map (·.2)).getD 0)) (by rw[zg_,rL];exact A) (by first | omega | rfl))) Z (fun V O=>?_)
   refine⟨aY,?_⟩;refine a8<|aD<|XK 4 Z ?_;have O:=O.pop;rw[Ck N,Hk c7] at O;refine aJ ⟨bf-1,by omega,oF,i+1,by omega,cI<|a6 oM,O⟩
  refine aH<|aD<|XK 4 Z ?_;have O:=O.pop;rw[Ck N,y5<|tu W] at O;refine aJ ⟨bf-1,by omega,oF,i+1,by omega,cI<|a6 oM,O⟩
 refine Wl 3 Z<|aQ<|Wi 3 Z ?_;have be:i=nV g:=by have h:nV g<=i:=bI bg;omega
 subst be;rw[KZ,OT] at O;refine S Z (Yv 3 Z) Z (S Z (Yw Z (O.bJ hb) Z) Z (S Z (Yx hg.order Z Z Z (e:=57) Z) Z (Wm 4 Z (bq ([16,17,18]++rg 141 23) (fun j t V=>∃(a:Nat),j+a=g.order.length/\t.get 141=some (nI a)/\H V K3 ((b2,.row [iv,ev,.slice b6 0 (nV g) (.known<|nV g),.slice b7 0 (nV g) (.known<|nV g)] 243 false)::(b7,.row ((gi g a 0).map gN) 3 false)::(b6,.row (((List.range<|nV g).map<|gu g).map gN) 3 false)::(b4,.map es ck)::L)) (g.order.length) ⟨0,Z,Z,O⟩ ?_))));clear O;intro dk t V ar hI;obtain⟨a,fd,bs,O⟩:=hI;obtain⟨oo,rfl⟩:=ar.q1 bs Z;refine Xa 6 Z<|aG Z (fun aa=>?_) (fun aa=>?_)
 ·refine UY 6 Z ?_;obtain⟨am,E,dl⟩:=dh aa;refine Yp (e:=57) (m:=1) hg.order E Z Z Z Z (fun fi dm bt dr bv=>?_);have hr143':=bv;obtain⟨fk,rfl,F⟩:=hr143';refine S Z (Yz O bt Z Z) Z (Wo 6 Z (S Z (Yx F Z Z Z (e:=89) Z) Z (Wm 4 Z (bq ([17,18]++rg 147 16) (fun j t V=>∃(c:Nat),j+c=am.length/\t.get 147=some (nI c)/\H V K3 ((b2,.row [iv,ev,.slice b6 0 (nV g) (.known<|nV g),.slice b7 0 (nV g) (.known<|nV g)] 243 false)::(b7,.row ((gi g a c).map gN) 3 false)::(b6,.row (((List.range<|nV g).map<|gu g).map gN) 3 false)::(b4,.map es ck)::L)) (am.length) ⟨0,Z,Z,O⟩ ?_))));clear O;intro ds t V ar hI;obtain⟨c,fs,bw,O⟩:=hI;obtain⟨oo,rfl⟩:=ar.q1 bw Z;refine Xa 6 Z<|aG Z (fun Q=>?_) (fun Q=>?_)
  ·refine UY 7 Z ?_;obtain⟨a4,T,dx⟩:=dh Q;refine Yp (e:=89) (m:=2) F T Z Z Z Z (fun f0 d0 bE d8 bF=>?_);obtain rfl:=bF;refine S Z (YA O bE Z Z) Z<|kb O (Yy (cs:=[iZ,iZ])) (fun V b8 O=>?_);refine vQ 1 Z<|ks O (YB Z Z Z O.g0 Z) (fun V O=>?_);refine Xd 2 Z<|aU (l:=zp [0,1,2,3,4,5,6,7,8,9,10]) B B ?_;obtain⟨nn,bM,cx,c0,_,_⟩:=Cb hR E T;have c1:((D8 m a4 0).map (·.2)).getD 0= .ofNat nn:=hn.get (fun i j x h1 h2=>uy h1 h2) cx
   refine ah Z Z (Yw Z (O.bJ h3) Z) Z (ah Z Z (cV Z) Z (XT O 2 [3,1] Z Z (ah Z Z (Yw Z (O.bJ h5) Z) Z (ah Z Z (YE Z O.g0 Z) Z (ah Z Z (AB NS hm (O.get 4 Z) (k:=a4) Z Z) Z (wQ 1 Z (ah Z Z (aB (v:=nI (c+1)) Z Z<|cI<|a6 (by have:=F.cQ;have:=aS Q;omega)) Z (ah Z Z (dP (e:=3) (m:=1) B B Z (cI c1) bM) Z (fD O (.there (.there .here)) Z Z (aL Z Z Z (O.get 2 Z) (m:=1) B Z (by rw[lM_];rw[mO];omega) Z (cells':=((gi g a c).set nn (.ofNat (c+1))).map (gN)) (ei (f:=gN) (v:=(.ofNat (c+1))) (by rw[mO];exact bM) (by first | omega | rfl))) Z (fun V O=>?_))))))))));refine⟨aY,?_⟩;rw[HX hR E T bM c0] at O;refine a8<|aD<|XK 4 Z ?_;have O:=O.pop;have hcl:=aS Q;refine aJ ⟨ds-1,by omega,oF,c+1,by omega,cI<|a6 (by have:=F.cQ;omega),O⟩
  refine Wl 3 Z<|aQ<|aD<|XK 4 Z ?_;have hal:=aS aa;have d9:c=am.length:=by have:=bI Q;omega
  subst d9;rw[FF E] at O;refine aJ ⟨dk-1,by omega,oF,a+1,by omega,cI<|a6 (by have:=hg.order.cQ;omega),O⟩
 refine Wl 3 Z<|aQ<|Xb 2 Z<|S Z (Yw Z (O.bJ h3) Z) Z<|Xf 5 Z ?_;replace O:=O.pull (.there (.there (.there<|bu.here (X:=[_]))));rw[za_] at O;replace O:=O.pull (.there (.there (.there<|bu.here (X:=[_]))));rw[za_] at O;replace O:=O.pull (.there (.there (.there<|bu.here (X:=[_]))));rw[za_] at O;replace O:=O.pull (.there (.there (.there<|bu.here (X:=[_]))));rw[za_] at O;rw[HV hR<|bI aa] at O;obtain⟨K4,ao,u,O⟩:=O.bZ (M:=[_,_,_]);have k2:=u _ (mS_ ..);have k8:=u _ (mC_ _<|mS_ ..);have k7:=u _ (mC_ _<|mC_ _<|mS_ ..);clear u;exact⟨.inr Z,_,qX Z Z Z,.inr ⟨hR,K4,b2,iv,ev,_,_,Z,KP.le_trans ax<|KP.le_trans hle23 ao,⟨k2,I.mono ao fun _ _ h=>h,a3.mono ao fun _ _ h=>h,ux k7 (by simp) oM,ux k8 (by simp) oM⟩,O.pop⟩⟩
structure n9 (K:KP) (g:XG) (u0 u1 u2 u3 ue up ul us uh:Y):Prop where
 po:bG K 1 RU (cy (nV g)<|nO g) u0
 rf:bG K 1 RU (cy (nV g)<|vp g) u1
 co:bG K 1 RU (cy (nV g)<|xJ g) u2
 fr:bG K 1 RU (cy (nV g)<|AF g) u3
 UW:bG K 1 RU (cy (nV g)<|oX (nV g)<|nu [vp g,xJ g,AF g]) ue
 OU:bG K 1 RU (cy (nV g)<|oX (nV g)<|nu [nO g,vp g]) up
 loc:bG K 1 RU (cy (nV g)<|Lw g) ul
 sw:bG K 1 RU (cy (nV g)<|xX g) us
 hb:bG K 1 RU (cy (nV g)<|oX (nV g)<|nu [nO g,xX g]) uh
theorem n9.mono {K K':KP} {g:XG} {u A C E ue up ul us uh:Y} (h:n9 K g u A C E ue up ul us uh) (hk:KP.le K K'):n9 K' g u A C E ue up ul us uh:=⟨h.po.mono hk fun _ _ h=>h,h.rf.mono hk fun _ _ h=>h,h.co.mono hk fun _ _ h=>h,h.fr.mono hk fun _ _ h=>h,h.UW.mono hk fun _ _ h=>h,h.OU.mono hk fun _ _ h=>h,h.loc.mono hk fun _ _ h=>h,h.sw.mono hk fun _ _ h=>h,h.hb.mono hk fun _ _ h=>h⟩
def Qk:List Y:=[.int .i64 0,.aw,.int .i64 0,.aw,.int .i64 0,.aw,.int .i64 0,.aw,.int .i64 0,.aw,.int .i64 0,.aw,.int .i64 0,.aw,.int .i64 0,.aw,.int .i64 0,.aw]
def gb (n:Nat) (u0 u1 u2 u3 ue up ul us uh:Y):List Y:=[.int .i64 (.ofNat n),u0,.int .i64 (.ofNat n),u1,.int .i64 (.ofNat n),u2,.int .i64 (.ofNat n),u3,.int .i64 (.ofNat n),ue,.int .i64 (.ofNat n),up,.int .i64 (.ofNat n),ul,.int .i64 (.ofNat n),us,.int .i64 (.ofNat n),uh]
def iq (m:Int) (g:XG):Bool:=bif bD (.ofNat (gP m).length) 0 then false else bT (Bf m g)
def I4 (m:Int):Int:=bif bD (.ofNat (gP m).length) 0 then 2 else 0
theorem Vu (I:Plain G) (hg:eS K g va vb vc vd) (O:H V K L):
  EC G 141 [.agg [va,vb,vc,vd]] V fun v V'=>(bD (eu g) 0=false/\v= .tuple [.agg Qk,.int .i64 2]/\H V' K L)∨(eE g/\∃K1 u0 u1 u2 u3 ue up ul us uh,v= .tuple [.agg<|gb (nV g) u0 u1 u2 u3 ue up ul us uh,iZ]/\KP.le K K1/\n9 K1 g u0 u1 u2 u3 ue up ul us uh/\H V' K1 L):=by
 refine XD I Tryz.func141 Z<|Xb 2 Z<|kb O (cL Z Z) (fun V b1 O=>?_);refine kb O (Yy (cs:=[iZ,.aw,iZ,.aw,iZ,.aw,iZ,.aw,iZ,.aw,iZ,.aw,iZ,.aw,iZ,.aw,iZ,.aw])) (fun V b2 O=>?_);refine Wo 5 Z<|S Z (YF Z O.g1 Z) Z<|kw (Yu Z Z Z) (OM I hg O) ?_;rintro _ V (⟨hne,rfl,O⟩ | ⟨hR,K1,b,iv,ev,fv,pv,rfl,hleA,hv,O⟩)
 ·refine VE 11 Z (S Z (ek Z) Z (Wo 5 Z (S Z (Yt (places:=[(0,8),(8,10)]) (zero:=[iZ,.aw,iZ,.aw,iZ,.aw,iZ,.aw,iZ,.aw,iZ,.aw,iZ,.aw,iZ,.aw,iZ,.aw]) (cs:=[_,_,_,_,_,_,_,_,_,_,_,_,_,_,_,_,_,_]) Z) Z ?_)));refine ks O (UM Z Z Z O.g0 (m:=18) Z Z (cells':=[_,_,_,_,_,_,_,_,_,_,_,_,_,_,_,_,_,_]) Z) (fun V O=>?_);refine Wq 5 Z ?_;exact eL Z Z O.g0 (m:=18) B Z Z (.inl ⟨hne,Z,O.pop.pop⟩)
 have hvl:=wX hR;clear hg;refine VE 11 Z<|S Z (ek Z) Z<|Xd 3 Z<|Wk 7 Z<|kw (Yu Z Z Z) (Cg I hv hvl (fn:=164) (fi:=[_]) (ca:=[]) B (R:=nO g) (fun i q hi hq V L O=>Ug I hv hi hq O) O) ?_;rintro _ V ⟨Kr18,ap,X,rfl,O⟩;replace hv:=hv.mono X;replace hleA:=KP.le_trans hleA X;obtain⟨Kkr18,W,aa,O⟩:=H.bZ (M:=[_]) O;replace hv:=hv.mono W;replace hleA:=KP.le_trans hleA W;have g0:=fP (aa _<|mS_ ..) (cP (nV g)<|nO g) oM;refine XP 3 Z<|kw (Yu Z Z Z) (Cg I hv hvl (fn:=165) (fi:=[_]) (ca:=[]) B (R:=vp g) (fun i q hi hq V L O=>W8 I hv hi hq O) O) ?_;rintro _ V ⟨Kr22,aq,T,rfl,O⟩;replace g0:=g0.mono T fun _ _ h=>h
 replace hv:=hv.mono T;replace hleA:=KP.le_trans hleA T;obtain⟨Kkr22,N,ab,O⟩:=H.bZ (M:=[_]) O;replace g0:=g0.mono N fun _ _ h=>h
 replace hv:=hv.mono N;replace hleA:=KP.le_trans hleA N;have g1:=fP (ab _<|mS_ ..) (cP (nV g)<|vp g) oM;refine XP 3 Z<|kw (Yu Z Z Z) (Cg I hv hvl (fn:=166) (fi:=[_]) (ca:=[]) B (R:=xJ g) (fun i q hi hq V L O=>Vw I hv hR hi hq O) O) ?_;rintro _ V ⟨Kr26,ar,Q,rfl,O⟩;replace g0:=g0.mono Q fun _ _ h=>h
 replace g1:=g1.mono Q fun _ _ h=>h
 replace hv:=hv.mono Q;replace hleA:=KP.le_trans hleA Q;obtain⟨Kkr26,E,ac,O⟩:=H.bZ (M:=[_]) O;replace g0:=g0.mono E fun _ _ h=>h
 replace g1:=g1.mono E fun _ _ h=>h
 replace hv:=hv.mono E;replace hleA:=KP.le_trans hleA E;have g2:=fP (ac _<|mS_ ..) (cP (nV g)<|xJ g) oM;refine XP 3 Z<|kw (Yu Z Z Z) (Cg I hv hvl (fn:=167) (fi:=[_]) (ca:=[]) B (R:=AF g) (fun i q hi hq V L O=>W7 I hv hR hi hq O) O) ?_;rintro _ V ⟨Kr30,ax,F,rfl,O⟩;replace g0:=g0.mono F fun _ _ h=>h
 replace g1:=g1.mono F fun _ _ h=>h
 replace g2:=g2.mono F fun _ _ h=>h
 replace hv:=hv.mono F;replace hleA:=KP.le_trans hleA F;obtain⟨Kkr30,C,am,O⟩:=H.bZ (M:=[_]) O;replace g0:=g0.mono C fun _ _ h=>h
 replace g1:=g1.mono C fun _ _ h=>h
 replace g2:=g2.mono C fun _ _ h=>h
 replace hv:=hv.mono C;replace hleA:=KP.le_trans hleA C;have g3:=fP (am _<|mS_ ..) (cP (nV g)<|AF g) oM;refine S Z (Yt (places:=[(0,2),(2,2),(4,2),(6,2)]) (zero:=[iZ,.aw,iZ,.aw,iZ,.aw,iZ,.aw]) (cs:=[_,_,_,_,_,_,_,_]) Z) Z (S Z (Yt (places:=[(0,8),(8,10)]) (zero:=[iZ,.aw,iZ,.aw,iZ,.aw,iZ,.aw,iZ,.aw,iZ,.aw,iZ,.aw,iZ,.aw,iZ,.aw]) (cs:=[_,_,_,_,_,_,_,_,_,_,_,_,_,_,_,_,_,_]) Z) Z<|kb O (Yy (cs:=[iZ,.aw,iZ,.aw,iZ,.aw,iZ,.aw,iZ,.aw,iZ,.aw,iZ,.aw,iZ,.aw,iZ,.aw])) (fun V b3 O=>?_));refine bO O Z (UM Z Z Z O.g0 (m:=18) Z (aj Z<|aj g0.leaf.2<|aj Z<|aj g1.leaf.2<|aj Z<|aj g2.leaf.2<|aj Z<|aj g3.leaf.2 Z) (cells':=[_,_,_,_,_,_,_,_,_,_,_,_,_,_,_,_,_,_]) Z) Z (fun V O=>?_);refine Wu O 6 [0,2] Z Z<|S Z (YE Z O.g0 Z) Z<|XS O 2 [0,4] Z Z<|S Z (YE Z O.g0 Z) Z<|XS O 2 [0,6] Z Z<|S Z (YE Z O.g0 Z) Z<|gE O Z (cM (e:=165) (m:=2) (z:=[iZ,.aw]) (cs:=[_,_,_,_,_,_]) B B B B<|bn Z Z Z Z<|bn Z Z Z Z<|bn Z Z Z Z cD) (fun _=>Z) (fun V b4 O=>?_);obtain⟨Kae,leae,memae,O⟩:=H.bZ (M:=[_]) O;replace g0:=g0.mono leae fun _ _ h=>h
 replace g1:=g1.mono leae fun _ _ h=>h
 replace g2:=g2.mono leae fun _ _ h=>h
 replace g3:=g3.mono leae fun _ _ h=>h
 replace hv:=hv.mono leae;replace hleA:=KP.le_trans hleA leae;have hle:=LR (n:=nV g) (memae _<|mS_ ..) g1 g2 g3;refine kw (Yu Z Z Z) (RC I (n:=nV g) oM hle (Nat.succ_pos _) O) ?_;rintro _ V ⟨oe,rfl,O⟩;obtain⟨Kkoe,lekoe,memkoe,O⟩:=H.bZ (M:=[_]) O;replace g0:=g0.mono lekoe fun _ _ h=>h
 replace g1:=g1.mono lekoe fun _ _ h=>h
 replace g2:=g2.mono lekoe fun _ _ h=>h
 replace g3:=g3.mono lekoe fun _ _ h=>h
 replace hv:=hv.mono lekoe;replace hleA:=KP.le_trans hleA lekoe;have hoe:=fP (memkoe _<|mS_ ..) (cP (nV g)<|nu [vp g,xJ g,AF g]) oM;refine kw (Yu Z Z Z) (Du I (n:=nV g) oM hoe O) ?_;rintro _ V ⟨pe,rfl,O⟩;obtain⟨Kkpe,lekpe,memkpe,O⟩:=H.bZ (M:=[_]) O;replace g0:=g0.mono lekpe fun _ _ h=>h
 replace g1:=g1.mono lekpe fun _ _ h=>h
 replace g2:=g2.mono lekpe fun _ _ h=>h
 replace g3:=g3.mono lekpe fun _ _ h=>h
 replace hoe:=hoe.mono lekpe fun _ _ h=>h
 replace hv:=hv.mono lekpe;replace hleA:=KP.le_trans hleA lekpe;have hpe:=fP (memkpe _<|mS_ ..) (cP (nV g)<|oX (nV g)<|nu [vp g,xJ g,AF g]) oM;refine XS O 2 [8,0] Z Z<|ks O (UM Z Z Z O.g0 (m:=2) Z (aj Z<|aj hpe.leaf.2 aC) (cells':=[_,_,_,_,_,_,_,_,_,_,_,_,_,_,_,_,_,_]) Z) (fun V O=>?_);refine Wu O 6 [0,0] Z Z<|S Z (YE Z O.g0 Z) Z<|XS O 2 [0,2] Z Z<|S Z (YE Z O.g0 Z) Z<|gE O Z (cM (e:=165) (m:=2) (z:=[iZ,.aw]) (cs:=[_,_,_,_]) B B B B<|bn Z Z Z Z<|bn Z Z Z Z cD) (fun _=>Z) (fun V b5 O=>?_);obtain⟨Kap,leap,memap,O⟩:=H.bZ (M:=[_]) O;replace g0:=g0.mono leap fun _ _ h=>h
 replace g1:=g1.mono leap fun _ _ h=>h
 replace g2:=g2.mono leap fun _ _ h=>h
 replace g3:=g3.mono leap fun _ _ h=>h
 replace hoe:=hoe.mono leap fun _ _ h=>h
 replace hpe:=hpe.mono leap fun _ _ h=>h
 replace hv:=hv.mono leap;replace hleA:=KP.le_trans hleA leap;have hlp:=JJ (n:=nV g) (memap _<|mS_ ..) g0 g1;refine kw (Yu Z Z Z) (RC I (n:=nV g) oM hlp (Nat.succ_pos _) O) ?_;rintro _ V ⟨op,rfl,O⟩;obtain⟨Kkop,lekop,memkop,O⟩:=H.bZ (M:=[_]) O;replace g0:=g0.mono lekop fun _ _ h=>h
 replace g1:=g1.mono lekop fun _ _ h=>h
 replace g2:=g2.mono lekop fun _ _ h=>h
 replace g3:=g3.mono lekop fun _ _ h=>h
 replace hoe:=hoe.mono lekop fun _ _ h=>h
 replace hpe:=hpe.mono lekop fun _ _ h=>h
 replace hv:=hv.mono lekop;replace hleA:=KP.le_trans hleA lekop;have hop:=fP (memkop _<|mS_ ..) (cP (nV g)<|nu [nO g,vp g]) oM;refine kw (Yu Z Z Z) (Du I (n:=nV g) oM hop O) ?_;rintro _ V ⟨pp,rfl,O⟩;obtain⟨Kkpp,lekpp,memkpp,O⟩:=H.bZ (M:=[_]) O;replace g0:=g0.mono lekpp fun _ _ h=>h
 replace g1:=g1.mono lekpp fun _ _ h=>h
 replace g2:=g2.mono lekpp fun _ _ h=>h
 replace g3:=g3.mono lekpp fun _ _ h=>h
 replace hoe:=hoe.mono lekpp fun _ _ h=>h
 replace hpe:=hpe.mono lekpp fun _ _ h=>h
 replace hop:=hop.mono lekpp fun _ _ h=>h
 replace hv:=hv.mono lekpp;replace hleA:=KP.le_trans hleA lekpp;have hpp:=fP (memkpp _<|mS_ ..) (cP (nV g)<|oX (nV g)<|nu [nO g,vp g]) oM;refine XS O 2 [8,2] Z Z<|ks O (UM Z Z Z O.g0 (m:=2) Z (aj Z<|aj hpp.leaf.2 aC) (cells':=[_,_,_,_,_,_,_,_,_,_,_,_,_,_,_,_,_,_]) Z) (fun V O=>?_);refine Wo 7 Z<|kw (Yu Z Z Z) (Cg I hv hvl (fn:=169) (fi:=[_]) (ca:=[]) B (R:=Lw g) (fun i q hi hq V L O=>Vx I hv hi hq O) O) ?_;rintro _ V ⟨Kr61,aE,A,rfl,O⟩;replace g0:=g0.mono A fun _ _ h=>h
 replace g1:=g1.mono A fun _ _ h=>h
 replace g2:=g2.mono A fun _ _ h=>h
 replace g3:=g3.mono A fun _ _ h=>h
 replace hoe:=hoe.mono A fun _ _ h=>h
 replace hpe:=hpe.mono A fun _ _ h=>h
 replace hop:=hop.mono A fun _ _ h=>h
 replace hpp:=hpp.mono A fun _ _ h=>h
 replace hv:=hv.mono A;replace hleA:=KP.le_trans hleA A;obtain⟨Kkr61,u,ao,O⟩:=H.bZ (M:=[_]) O;replace g0:=g0.mono u fun _ _ h=>h
 replace g1:=g1.mono u fun _ _ h=>h
 replace g2:=g2.mono u fun _ _ h=>h
 replace g3:=g3.mono u fun _ _ h=>h
 replace hoe:=hoe.mono u fun _ _ h=>h
 replace hpe:=hpe.mono u fun _ _ h=>h
 replace hop:=hop.mono u fun _ _ h=>h
 replace hpp:=hpp.mono u fun _ _ h=>h
 replace hv:=hv.mono u;replace hleA:=KP.le_trans hleA u;have gl:=fP (ao _<|mS_ ..) (cP (nV g)<|Lw g) oM;refine XS O 2 [8,4] Z Z<|ks O (UM Z Z Z O.g0 (m:=2) Z (aj Z<|aj gl.leaf.2 aC) (cells':=[_,_,_,_,_,_,_,_,_,_,_,_,_,_,_,_,_,_]) Z) (fun V O=>?_);refine Wo 5 Z<|kw (Yu Z Z Z) (W9 I hv hR hvl O) ?_;rintro _ V ⟨Ks,os,les,rfl,O⟩;replace g0:=g0.mono les fun _ _ h=>h
 replace g1:=g1.mono les fun _ _ h=>h
 replace g2:=g2.mono les fun _ _ h=>h
 replace g3:=g3.mono les fun _ _ h=>h
 replace hoe:=hoe.mono les fun _ _ h=>h
 replace hpe:=hpe.mono les fun _ _ h=>h
 replace hop:=hop.mono les fun _ _ h=>h
 replace hpp:=hpp.mono les fun _ _ h=>h
 replace gl:=gl.mono les fun _ _ h=>h
 replace hv:=hv.mono les;replace hleA:=KP.le_trans hleA les;obtain⟨Kks,leks,memks,O⟩:=H.bZ (M:=[_]) O;replace g0:=g0.mono leks fun _ _ h=>h
 replace g1:=g1.mono leks fun _ _ h=>h
 replace g2:=g2.mono leks fun _ _ h=>h
 replace g3:=g3.mono leks fun _ _ h=>h
 replace hoe:=hoe.mono leks fun _ _ h=>h
 replace hpe:=hpe.mono leks fun _ _ h=>h
 replace hop:=hop.mono leks fun _ _ h=>h
 replace hpp:=hpp.mono leks fun _ _ h=>h
 replace gl:=gl.mono leks fun _ _ h=>h
 replace hv:=hv.mono leks;replace hleA:=KP.le_trans hleA leks;have gs:=fP (memks _<|mS_ ..) (cP (nV g)<|xX g) oM;refine XS O 2 [8,6] Z Z<|ks O (UM Z Z Z O.g0 (m:=2) Z (aj Z<|aj gs.leaf.2 aC) (cells':=[_,_,_,_,_,_,_,_,_,_,_,_,_,_,_,_,_,_]) Z) (fun V O=>?_);refine Wu O 6 [0,0] Z Z<|S Z (YE Z O.g0 Z) Z<|XS O 2 [8,6] Z Z<|S Z (YE Z O.g0 Z) Z<|gE O Z (cM (e:=165) (m:=2) (z:=[iZ,.aw]) (cs:=[_,_,_,_]) B B B B<|bn Z Z Z Z<|bn Z Z Z Z cD) (fun _=>Z) (fun V b6 O=>?_);obtain⟨Kah,leah,memah,O⟩:=H.bZ (M:=[_]) O;replace g0:=g0.mono leah fun _ _ h=>h
 replace g1:=g1.mono leah fun _ _ h=>h
 replace g2:=g2.mono leah fun _ _ h=>h
 replace g3:=g3.mono leah fun _ _ h=>h
 replace hoe:=hoe.mono leah fun _ _ h=>h
 replace hpe:=hpe.mono leah fun _ _ h=>h
 replace hop:=hop.mono leah fun _ _ h=>h
 replace hpp:=hpp.mono leah fun _ _ h=>h
 replace gl:=gl.mono leah fun _ _ h=>h
 replace gs:=gs.mono leah fun _ _ h=>h
 replace hv:=hv.mono leah;replace hleA:=KP.le_trans hleA leah;have hlh:=JJ (n:=nV g) (memah _<|mS_ ..) g0 gs;refine kw (Yu Z Z Z) (RC I (n:=nV g) oM hlh (Nat.succ_pos _) O) ?_;rintro _ V ⟨oh,rfl,O⟩;obtain⟨Kkoh,lekoh,memkoh,O⟩:=H.bZ (M:=[_]) O;replace g0:=g0.mono lekoh fun _ _ h=>h
 replace g1:=g1.mono lekoh fun _ _ h=>h
 replace g2:=g2.mono lekoh fun _ _ h=>h
 replace g3:=g3.mono lekoh fun _ _ h=>h
 replace hoe:=hoe.mono lekoh fun _ _ h=>h
 replace hpe:=hpe.mono lekoh fun _ _ h=>h
 replace hop:=hop.mono lekoh fun _ _ h=>h
 replace hpp:=hpp.mono lekoh fun _ _ h=>h
 replace gl:=gl.mono lekoh fun _ _ h=>h
 replace gs:=gs.mono lekoh fun _ _ h=>h
 replace hv:=hv.mono lekoh;replace hleA:=KP.le_trans hleA lekoh;have hoh:=fP (memkoh _<|mS_ ..) (cP (nV g)<|nu [nO g,xX g]) oM;refine kw (Yu Z Z Z) (Du I (n:=nV g) oM hoh O) ?_;rintro _ V ⟨ph,rfl,O⟩;obtain⟨Kkph,lekph,memkph,O⟩:=H.bZ (M:=[_]) O;replace g0:=g0.mono lekph fun _ _ h=>h
 replace g1:=g1.mono lekph fun _ _ h=>h
 replace g2:=g2.mono lekph fun _ _ h=>h
 replace g3:=g3.mono lekph fun _ _ h=>h
 replace hoe:=hoe.mono lekph fun _ _ h=>h
 replace hpe:=hpe.mono lekph fun _ _ h=>h
 replace hop:=hop.mono lekph fun _ _ h=>h
 replace hpp:=hpp.mono lekph fun _ _ h=>h
 replace gl:=gl.mono lekph fun _ _ h=>h
 replace gs:=gs.mono lekph fun _ _ h=>h
 replace hoh:=hoh.mono lekph fun _ _ h=>h
 replace hv:=hv.mono lekph;replace hleA:=KP.le_trans hleA lekph;have hph:=fP (memkph _<|mS_ ..) (cP (nV g)<|oX (nV g)<|nu [nO g,xX g]) oM;refine XS O 2 [8,8] Z Z<|ks O (UM Z Z Z O.g0 (m:=2) Z (aj Z<|aj hph.leaf.2 aC) (cells':=[_,_,_,_,_,_,_,_,_,_,_,_,_,_,_,_,_,_]) Z) (fun V O=>?_);refine Wo 4 Z<|S Z (SG Z O.g0 (n:=18) (vs:=[_,_,_,_,_,_,_,_,_,_,_,_,_,_,_,_,_,_]) Z) Z ?_;refine gF O Z (UM Z Z Z O.g1 (m:=18) Z (aj Z<|aj g0.leaf.2<|aj Z<|aj g1.leaf.2<|aj Z<|aj g2.leaf.2<|aj Z<|aj g3.leaf.2<|aj Z<|aj hpe.leaf.2<|aj Z<|aj hpp.leaf.2<|aj Z<|aj gl.leaf.2<|aj Z<|aj gs.leaf.2<|aj Z<|aj hph.leaf.2 aC) (cells':=[_,_,_,_,_,_,_,_,_,_,_,_,_,_,_,_,_,_]) Z) Z (fun V O=>?_);refine Xf 4 Z ?_;exact eL Z Z O.g1 (m:=18) B Z Z (.inr ⟨hR,_,_,_,_,_,_,_,_,_,_,Z,hleA,⟨g0,g1,g2,g3,hpe,hpp,gl,gs,hph⟩,O.pop.pop.pop⟩)
theorem RF (N:Plain G) (hg:eS K g va vb vc vd) (O:H V K L):
  EC G 110 [.agg [va,vb,vc,vd]] V fun v V'=>(bD (eu g) 0=false/\v= .tuple [.agg (va::vb::vc::vd::Qk),.bool false]/\H V' K L)∨(eE g/\∃C E F I M ue up ul us uh,v= .tuple [.agg (va::vb::vc::vd::gb (nV g) E F I M ue up ul us uh),.bool true]/\KP.le K C/\n9 C g E F I M ue up ul us uh/\H V' C L):=by
 refine XD N Tryz.func110 Z<|Xb 2 Z<|kb O (cL Z Z) (fun V b1 O=>?_);refine kb O (Yy (cs:=[.aw,.aw,.aw,.aw,iZ,.aw,iZ,.aw,iZ,.aw,iZ,.aw,iZ,.aw,iZ,.aw,iZ,.aw,iZ,.aw,iZ,.aw])) (fun V b2 O=>?_);refine Wo 5 Z<|S Z (YF Z O.g1 Z) Z<|kw (Yu Z Z Z) (Vu N hg O) ?_;rintro _ V (⟨hne,rfl,O⟩ | ⟨Q,C,E,F,I,M,ue,up,ul,us,uh,rfl,A,u,O⟩)
 ·refine XP 3 Z<|kb O (Yy (cs:=[iZ,.aw,iZ,.aw,iZ,.aw,iZ,.aw,iZ,.aw,iZ,.aw,iZ,.aw,iZ,.aw,iZ,.aw])) (fun V R O=>?_);refine ks O (UM Z Z Z O.g0 (m:=18) Z Z (cells':=[_,_,_,_,_,_,_,_,_,_,_,_,_,_,_,_,_,_]) Z) (fun V O=>?_);refine Wo 5 Z (S Z (YF Z (O.get 2 Z) Z) Z (S Z (SG Z O.g0 (n:=18) (vs:=[_,_,_,_,_,_,_,_,_,_,_,_,_,_,_,_,_,_]) Z) Z (S Z (Yt (places:=[(0,4),(4,18)]) (zero:=[.aw,.aw,.aw,.aw,iZ,.aw,iZ,.aw,iZ,.aw,iZ,.aw,iZ,.aw,iZ,.aw,iZ,.aw,iZ,.aw,iZ,.aw]) (cs:=[_,_,_,_,_,_,_,_,_,_,_,_,_,_,_,_,_,_,_,_,_,_]) Z) Z<|XP 2 Z ?_)));refine gF O Z (UM Z Z Z O.g1 (m:=22) Z (aj hg.init.leaf.2<|aj hg.threads.leaf.2<|aj hg.from_.leaf.2<|aj hg.order.leaf.2 Z) (cells':=[_,_,_,_,_,_,_,_,_,_,_,_,_,_,_,_,_,_,_,_,_,_]) Z) Z (fun V O=>?_);refine Xf 4 Z ?_;exact eL Z Z O.g1 (m:=22) B Z Z (.inl ⟨hne,Z,O.pop.pop.pop⟩)
 replace hg:=hg.mono A;refine XP 3 Z<|kb O (Yy (cs:=[iZ,.aw,iZ,.aw,iZ,.aw,iZ,.aw,iZ,.aw,iZ,.aw,iZ,.aw,iZ,.aw,iZ,.aw])) (fun V R O=>?_);refine bO O Z (UM Z Z Z O.g0 (m:=18) Z (aj Z<|aj u.po.leaf.2<|aj Z<|aj u.rf.leaf.2<|aj Z<|aj u.co.leaf.2<|aj Z<|aj u.fr.leaf.2<|aj Z<|aj u.UW.leaf.2<|aj Z<|aj u.OU.leaf.2<|aj Z<|aj u.loc.leaf.2<|aj Z<|aj u.sw.leaf.2<|aj Z<|aj u.hb.leaf.2 aC) (cells':=[_,_,_,_,_,_,_,_,_,_,_,_,_,_,_,_,_,_]) Z) Z (fun V O=>?_);refine Wo 5 Z (S Z (YF Z (O.get 2 Z) Z) Z (S Z (SG Z O.g0 (n:=18) (vs:=[_,_,_,_,_,_,_,_,_,_,_,_,_,_,_,_,_,_]) Z) Z (S Z (Yt (places:=[(0,4),(4,18)]) (zero:=[.aw,.aw,.aw,.aw,iZ,.aw,iZ,.aw,iZ,.aw,iZ,.aw,iZ,.aw,iZ,.aw,iZ,.aw,iZ,.aw,iZ,.aw]) (cs:=[_,_,_,_,_,_,_,_,_,_,_,_,_,_,_,_,_,_,_,_,_,_]) Z) Z<|XP 2 Z ?_)));refine gF O Z (UM Z Z Z O.g1 (m:=22) Z (aj hg.init.leaf.2<|aj hg.threads.leaf.2<|aj hg.from_.leaf.2<|aj hg.order.leaf.2<|aj Z<|aj u.po.leaf.2<|aj Z<|aj u.rf.leaf.2<|aj Z<|aj u.co.leaf.2<|aj Z<|aj u.fr.leaf.2<|aj Z<|aj u.UW.leaf.2<|aj Z<|aj u.OU.leaf.2<|aj Z<|aj u.loc.leaf.2<|aj Z<|aj u.sw.leaf.2<|aj Z<|aj u.hb.leaf.2 aC) (cells':=[_,_,_,_,_,_,_,_,_,_,_,_,_,_,_,_,_,_,_,_,_,_]) Z) Z (fun V O=>?_);refine Xf 4 Z ?_;exact eL Z Z O.g1 (m:=22) B Z Z (.inr ⟨Q,C,E,F,I,M,ue,up,ul,us,uh,Z,A,u,O.pop.pop.pop⟩)
variable {N u0 u1 u2 u3 ue uh ul:Y}
def Pn (Q:Ex->PT Y->D->Prop) (e:Ex) (t:PT Y) (V:D):Prop:=match e with | .goto _=>False | e=>Q e t V
section
variable {P:Program} {G:Cx} {n:Nat} {t:PT Y} {V:D} {Q:Ex->PT Y->D->Prop}
theorem Ah (h:Q .ret t V):Pn Q .ret t V:=h
theorem ND {b:Code} (h:Ev P G b n t V (Pn Q)):Ev P G (.scope b) n t V Q:=by
 obtain⟨K,e,t',V',h1,u⟩:=h
 have step:∀d ro k,K<=k->ed P G (k+1) (.scope b) t n d ro V=wb (.ok e t' d V'):=fun d ro k hk=>by
  show wb (ed P G k b t n d ro V)=_;rw[h1 d ro k hk]
 have h3:Q e t' V'/\∀d,wb (.ok e t' d V')= .ok e t' d V':=by
  cases e with
  | goto i=>exact u.elim
  | _=>exact⟨u,fun _=>Z⟩
 exact⟨K+1,e,t',V',fun d ro k hk=>by obtain⟨j,rfl⟩:∃j,k=j+1:=⟨k-1,by omega⟩;rw[step d ro j oM,h3.2],h3.1⟩
end
theorem Tb {n:Nat} {R:Rn}:oX n (oX n R)=oX n R:=by
 funext i j;rw[zd_,jS,jS];constructor
 ·intro h;induction h with
  | one _ _ h=>exact jS.1 h
  | step _ _ h1 u=>exact .step h1 u
 intro h;exact .one h.lt.1 h.lt.2<|jS.2 h
theorem R4 (u:eE g) {t k:Nat} {row:List bW} {e:bW} (E:g.threads[t]? =some row) (h3:row[k]? =some e) (hw:bQ e=true):∃(ln:Nat) (r:List bV),e.loc= .ofNat ln/\g.order[ln]? =some r:=by
 obtain⟨frow,hf⟩:=da (show t<g.from_.length by rw[u.from_];exact(gA.1 E).1);obtain⟨hl,A⟩:=u.rows t row frow E hf;obtain⟨q,hq⟩:=da (show k<frow.length by rw[hl];exact(gA.1 h3).1);have hoke:=A k e q h3 hq;unfold Ea at hoke
 have C:cj e (.ofNat g.init.length)=true:=by
  revert hoke;cases cj e (.ofNat g.init.length)<;>intro hoke
  ·exact Bool.noConfusion (show false=true from hoke)
  rfl
 obtain⟨ln,r,h5,F,_⟩:=LU (hJ.2 u) C hw;exact⟨ln,r,h5,F⟩
theorem RB (R:Plain G) {l:List bV} {v:Y} (M:bG K 2 fj l v) (id:bV) (O:H V K L):
  Ca G K L 198 [v,.agg [.int .i64 id.bM,.int .i64 id.index]] V <| .int .i64 (fK (fun x:bV=>dv x.ints id.ints) l 0):=by
 refine XD R Tryz.func198 Z<|Xb 2 Z<|kb O (cL Z Z) (fun V b1 O=>?_);refine VE 7 Z<|S Z (Yx M Z Z Z (e:=89) Z) Z<|Wm 4 Z ?_;obtain⟨LL1,O,hLL1⟩:=O.named;refine bq ([4,5]++rg 8 11) (fun j t V=>∃(i:Nat),j+i=l.length/\fK (fun x:bV=>dv x.ints id.ints) l 0=fK (fun x:bV=>dv x.ints id.ints) (l.drop i) i/\t.get 8=some (nI i)/\H V K LL1) (l.length) ⟨0,Z,Z,Z,O⟩ ?_;clear O;intro T t V ar W;obtain⟨i,am,he,N,O⟩:=W;subst hLL1;obtain⟨oo,rfl⟩:=ar.q1 N Z;refine Xa 6 Z<|aG Z (fun I=>?_) (fun I=>?_)
 ·refine UY 8 Z<|Wn 3 Z<|aU (l:=zp [0,1,2,3,4,5]) B B<|ah Z Z (YE Z O.g0 Z) Z<|XQ 2 Z ?_;obtain⟨A,C,aa⟩:=dh I;refine Yq (e:=89) (m:=2) M C Z Z Z Z Z (fun ao ab E ac F=>?_);obtain rfl:=F;refine ah Z Z (YA O E Z Z) Z<|ah Z Z (Tk (n:=2) (ca:=id.ints) (cb:=A.ints) B Z Z Z Z) Z<|Xg 2 Z<|aG Z (fun u=>?_) (fun u=>?_)
  ·replace u:dv A.ints id.ints=true:=eh.2 (eh.1 u).symm;refine XN 7 Z<|aI<|aA<|bP<|aI<|aA (?_);exact az Z Z ⟨cJ (by rw[he,cT C];show _=(bif dv A.ints id.ints then Int.ofNat i else _);rw[u];rfl),O.pop⟩
  replace u:dv A.ints id.ints=false:=uP.2 fun h=>by rw[eh.2 h.symm] at u;cases u
  refine aH<|aD<|XK 4 Z ?_;have hlp:=aS I;refine aJ ⟨T-1,by omega,oF,i+1,by omega,by rw[he,cT C];show(bif dv A.ints id.ints then Int.ofNat i else _)=_;rw[u];rfl,cI<|a6 (by have:=M.cQ;omega),O⟩
 refine Wl 3 Z<|aQ<|XN 6 Z ?_;exact az Z Z ⟨cJ (by rw[he,eK<|bI I];rfl),O.pop⟩
theorem Jx (F:Plain G) (M:eS K g va vb vc vd) {r:List bV} (I:g.order[ln]? =some r) (ac:r.length<=1000) (id:bV) (O:H V K L):
  Ca G K L 171 [.agg [va,vb,vc,vd],nI ln,.agg [.int .i64 id.bM,.int .i64 id.index]] V <| .int .i64 (pC g (.ofNat ln) id):=by
 refine XD F Tryz.func171 Z<|Xb 2 Z<|kb O (cL Z Z) (fun V b1 O=>?_);refine kb O (cL Z Z) (fun V b2 O=>?_);refine VF O 9 [0,0] Z Z<|Xd 2 Z<|aG Z (fun E=>?_) (fun E=>?_)
 ·refine Xc 7 Z ?_;exact az Z Z ⟨cJ (by unfold pC;rw[show bD id.bM 0=true from E];rfl),O.pop.pop⟩
 refine Wj 3 Z<|aU (l:=zp [0,1,2,3,4,5,6,7,8]) B B<|XT O 3 [3,1] Z Z<|Yq (e:=57) (m:=1) M.order I Z Z Z Z Z (fun am aa u ab A=>?_);have hr13':=A;obtain⟨ao,rfl,C⟩:=hr13';refine ah Z Z (Yz O u Z Z) Z<|ah Z Z (YE Z O.g0 Z) Z<|dO Z Z (Yu Z Z Z) (fun _=>Z) (RB F C _ O) (fun V O=>?_);refine⟨aY,?_⟩;refine Xh 5 Z ?_;exact az Z Z ⟨cJ (by unfold pC vW;rw[show bD id.bM 0=false from E,show(Int.ofNat ln).toNat=ln from Z,I];rfl),O.pop.pop⟩
theorem OL (hG:Plain G) {up us:Y} (hg:eS K g va vb vc vd) (hd:n9 K g u0 u1 u2 u3 ue up ul us uh) (I:eE g) (O:H V K L):
  EC G 143 [.agg (va::vb::vc::vd::gb (nV g) u0 u1 u2 u3 ue up ul us uh)] V fun u V'=>(∃x y,u= .agg [.int .i64 x,.int .i64 y,.bool<|bT<|cW (Ms g) 0])/\H V' K L:=by
 refine XD hG Tryz.func143 Z<|Xb 2 Z<|kb O (cL Z Z) (fun V b1 O=>?_);refine kb O (Yy (cs:=[iZ,iZ,.bool false])) (fun V b2 O=>?_);refine Wu O 7 [0,0,1] Z Z<|S Z (Yx hg.init Z Z Z (e:=2) Z) Z<|VF O 9 [0,1,1] Z Z<|S Z (Yx hg.threads Z Z Z (e:=41) Z) Z<|Wm 4 Z ?_;obtain⟨LL1,O,hLL1⟩:=O.named;refine bq (rg 3 6++rg 17 47) (fun j t V=>∃(tt:Nat) (cc:Int),j+tt=g.threads.length/\tM g tt 0/\t.get 3=some (.int .i64 cc)/\t.get 17=some (nI tt)/\H V K LL1) (g.threads.length) ⟨0,_,Z,NN,Z,Z,O⟩ ?_;clear O;intro j3 t V ar hI;obtain⟨tt,cc,bs,E,X,ap,O⟩:=hI;subst hLL1;obtain⟨oo,rfl⟩:=ar.q2 X ap Z;refine Xa 6 Z<|aG Z (fun M=>?_) (fun M=>?_)
 ·refine UY 7 Z ?_;obtain⟨aa,A,bc⟩:=dh M;refine Yp (e:=41) (m:=1) hg.threads A Z Z Z Z (fun bt bd aq be ax=>?_);have hr20':=ax;obtain⟨bv,rfl,W⟩:=hr20';refine S Z (Yz O aq Z Z) Z<|Wo 7 Z<|S Z (Yx W Z Z Z (e:=40) Z) Z<|Wm 4 Z ?_;obtain⟨LL2,O,hLL2⟩:=O.named;refine bq ([3,6,7,8]++rg 24 39) (fun j t V=>∃(kk:Nat) (cc:Int),j+kk=aa.length/\tM g tt kk/\t.get 3=some (.int .i64 cc)/\t.get 24=some (nI kk)/\H V K LL2) (aa.length) ⟨0,cc,Z,E,Z,Z,O⟩ ?_;clear O;intro j6 t V ar hI;obtain⟨kk,cc,bw,E,X,aE,O⟩:=hI;subst hLL2;obtain⟨oo,rfl⟩:=ar.q2 X aE Z;refine Xa 6 Z<|aG Z (fun N=>?_) (fun N=>?_)
  ·refine UY 7 Z ?_;obtain⟨F,C,bf⟩:=dh N;refine Yp (e:=40) (m:=5) W C Z Z Z Z (fun bE bg a0 bi a1=>?_);obtain rfl:=a1;refine S Z (YA O a0 Z Z) Z<|kb O (Yy (cs:=[iZ,iZ,iZ,iZ,iZ])) (fun V b3 O=>?_);refine vQ 1 Z<|ks O (YD Z Z Z O.g0 Z) (fun V O=>?_);refine VF O 8 [0,0] Z Z<|Xd 2 Z<|aG Z (fun R=>?_) (fun R=>?_)
   ·refine Xb 2 Z ?_;obtain⟨ln,r,T,ab⟩:=R4 I A C (by unfold bQ;rw[show bD F.kind 3=true from R];cases bD F.kind 2<;>rfl);have hrl:=oE (hJ.2 I) r (gB_ ab);refine S Z (Yv 0 Z) Z (S Z (YF Z (O.get 2 Z) Z) Z (XS O 3 [1,0] Z Z (S Z (aB (v:=nI (tt+1)) Z Z<|cI<|a6 (by have:=I.threads;have:=aS M;omega)) Z (vQ 1 Z (S Z (Yt (places:=[(0,1),(1,1)]) (zero:=[iZ,iZ]) (cs:=[_,_]) Z) Z<|kx (Yu Z Z Z) (by rw[T];exact Jx hG hg ab oM ⟨.ofNat (tt+1),.ofNat kk⟩ O) (fun V O=>?_))))));refine Wn 4 Z<|aU (l:=zp [0,1,2,3,4,5,6,7,8,9,10,11,12,13,14,15,16]) B B ?_;obtain⟨frow,ac⟩:=da (show tt<g.from_.length by rw[I.from_];exact(gA.1 A).1);obtain⟨q,hq⟩:=da (show kk<frow.length by rw[(I.rows tt _ _ A ac).1];exact(gA.1 C).1);have a2:Qm g ⟨.ofNat (tt+1),.ofNat kk⟩=q:=by unfold Qm;show((((g.from_[tt]?).getD [])[kk]?).getD ⟨0,0⟩:bV)=q;rw[ac];show((frow[kk]?).getD ⟨0,0⟩:bV)=q;rw[hq];rfl
    refine XT O 2 [0] Z Z<|ah Z Z (YF Z (O.get 2 Z) Z) Z<|XT O 6 [1,0,0,2,2] Z Z<|Yq (e:=57) (m:=1) hg.from_ ac Z Z Z Z Z (fun bF bl a3 bm a4=>?_);have hr50':=a4;obtain⟨bM,rfl,a5⟩:=hr50';refine ah Z Z (Yz O a3 Z Z) Z<|wQ 1 Z<|Yq (e:=89) (m:=2) a5 hq Z Z Z Z Z (fun bR bo a9 bp ba=>?_);obtain rfl:=ba;refine ah Z Z (YA O a9 Z Z) Z<|dO Z Z (Yu Z Z Z) (fun _=>Z) (by rw[T];exact Jx hG hg ab oM q O) (fun V O=>?_);refine⟨aY,?_⟩;refine Xg 4 Z<|aG Z (fun am=>?_) (fun am=>?_)
    ·refine Xb 3 Z (S Z (Yt (places:=[(0,1),(1,1),(2,1)]) (zero:=[iZ,iZ,.bool false]) (cs:=[_,_,_]) Z) Z<|gF O Z (YC Z Z Z O.g1 Z) Z (fun V O=>?_));refine Xf 3 Z<|aA<|aI<|aA<|bP<|aI<|aI<|aA<|bP<|aI<|aA (?_);exact dy Z Z O.g1 (m:=3) B Z ⟨⟨_,_,by rw[NM I E A C (by unfold CU;rw[show bD F.kind 3=true from R,T,a2];exact am)];rfl⟩,O.pop.pop.pop⟩
    refine aH<|XK 5 Z<|aD<|XK 4 Z ?_;have O:=O.pop;have hkl:=aS N;have ao:CU g tt kk F=false:=by unfold CU;rw[show bD F.kind 3=true from R,T,a2];exact am
    refine aJ ⟨j6-1,by omega,oF,kk+1,_,by omega,NO I E A C ao,Z,cI<|a6 (by have:=I.short tt _ A;omega),O⟩
   refine aH<|XK 5 Z<|aD<|XK 4 Z ?_;have O:=O.pop;have hkl:=aS N;have ao:CU g tt kk F=false:=by unfold CU;rw[show bD F.kind 3=false from R];rfl
   refine aJ ⟨j6-1,by omega,oF,kk+1,_,by omega,NO I E A C ao,Z,cI<|a6 (by have:=I.short tt _ A;omega),O⟩
  refine Wl 3 Z<|aQ<|aD<|XK 4 Z ?_;have htl:=aS M;have bb:kk=aa.length:=by have:=bI N;omega
  subst bb;refine aJ ⟨j3-1,by omega,oF,tt+1,cc,by omega,TF E A,Z,cI<|a6 (by have:=I.threads;omega),O⟩
 refine Wl 3 Z (aQ (Xb 2 Z (S Z (Yt (places:=[(0,1),(1,1),(2,1)]) (zero:=[iZ,iZ,.bool false]) (cs:=[_,_,_]) Z) Z<|ks O (YC Z Z Z O.g0 Z) (fun V O=>?_))));refine Xf 3 Z ?_;exact dy Z Z O.g0 (m:=3) B Z ⟨⟨_,_,by rw[NL E<|bI M];rfl⟩,O.pop.pop⟩
theorem zP (W:Plain G) {n:Nat} (hn:n<64) {R:Rn} (T:bG K 1 RU (cy n R) va) (O:H V K L):
  EC G 145 [.agg [nI n,va]] V fun u V'=>(∃x y,u= .agg [.int .i64 x,.int .i64 y,.bool<|bT<|cW (Ai n R) 0])/\H V' K L:=by
 have hlen:=cP n R;refine XD W Tryz.func145 Z<|Xb 2 Z<|kb O (cL Z Z) (fun V b1 O=>?_);refine kb O (Yy (cs:=[iZ,iZ,.bool false])) (fun V b2 O=>?_);refine VF O 7 [1,1] Z Z<|S Z (Yx T Z Z Z (e:=138) Z) Z<|Wm 4 Z ?_;obtain⟨LL1,O,hLL1⟩:=O.named;refine bq ([3,4]++rg 8 13) (fun j t V=>∃(i:Nat),j+i=(cy n R).length/\(∀q,q<i->R q q=false)/\t.get 8=some (nI i)/\H V K LL1) ((cy n R).length) ⟨0,Z,fun q hq=>absurd hq (nZ_ _),Z,O⟩ ?_;clear O;intro X t V ar hI;obtain⟨i,ac,C,M,O⟩:=hI;subst hLL1;obtain⟨oo,rfl⟩:=ar.q1 M Z;refine Xa 6 Z<|aG Z (fun N=>?_) (fun N=>?_)
 ·refine UY 6 Z ?_;have A:i<n:=by have:=aS N;omega
  refine vQ 1 Z<|Yp (e:=138) (m:=1) T (fG A) Z Z Z Z (fun am aa F ab I=>?_);obtain rfl:=I;refine S Z (Yz O F Z Z) Z (Wo 8 Z (S Z (aB (v:=.int .u64 (.ofNat (bN n (R i)/2 ^ i))) Z Z<|xf oM) Z (S Z (aB (v:=.int .u64 (.ofNat (bN n (R i)/2 ^ i &&& 1))) Z Z<|uX (Nat.lt_of_le_of_lt (Nat.div_le_self _ _)<|dG oM _) (by decide)) Z (S Z (aB (v:=.bool ((bN n<|R i).testBit i)) Z Z (Gb)) Z<|Xd 2 Z<|aG Z (fun E=>?_) (fun E=>?_)))))
  ·refine Xb 3 Z (S Z (Yt (places:=[(0,1),(1,1),(2,1)]) (zero:=[iZ,iZ,.bool false]) (cs:=[_,_,_]) Z) Z<|ks O (YC Z Z Z O.g0 Z) (fun V O=>?_));refine Xf 3 Z<|aI<|aA<|bP<|aI<|aA (?_);exact dy Z Z O.g0 (m:=3) B Z ⟨⟨_,_,by rw[Pp A ((gK (p:=R i) A).symm.trans E) C];rfl⟩,O.pop.pop⟩
  refine aH (aD (XK 4 Z (aJ ⟨X-1,by omega,oF,i+1,by omega,fun q hq=>by by_cases e:q=i;(subst e;exact(gK (p:=R q) A).symm.trans E);exact C q oM,cI<|a6 oM,O⟩)))
 refine Wl 3 Z (aQ (Xb 2 Z (S Z (Yt (places:=[(0,1),(1,1),(2,1)]) (zero:=[iZ,iZ,.bool false]) (cs:=[_,_,_]) Z) Z<|ks O (YC Z Z Z O.g0 Z) (fun V O=>?_))));refine Xf 3 Z ?_;exact dy Z Z O.g0 (m:=3) B Z ⟨⟨_,_,by rw[R7 fun q hq=>C q (by have:=bI N;omega)];rfl⟩,O.pop.pop⟩
theorem Fz (hG:Plain G) {up us:Y} (hg:eS K g va vb vc vd) (hd:n9 K g u0 u1 u2 u3 ue up ul us uh) (hR:eE g) (O:H V K L):
  EC G 147 [.agg (va::vb::vc::vd::gb (nV g) u0 u1 u2 u3 ue up ul us uh)] V fun u V'=>(∃x y,u= .agg [.int .i64 x,.int .i64 y,.bool<|GV g])/\H V' K L:=by
 have hvl:=wX hR;have hl1:=cP (nV g) (oX (nV g)<|nu [nO g,xX g]);have hl2:=cP (nV g) (oX (nV g)<|nu [vp g,xJ g,AF g]);refine XD hG Tryz.func147 Z<|Xb 2 Z<|kb O (cL Z Z) (fun V b1 O=>?_);refine kb O (Yy (cs:=[iZ,iZ,.bool false])) (fun V b2 O=>?_);refine Xd 2 Z (ND (ai (aU (l:=zp [0,1,2,3,4,5,6,7,8,9,10,11]) B B (XT O 12 [4,8,8,1,1,4,8,0,1,1] Z Z (Xg 2 Z (Xb 2 Z (S Z (Yt (places:=[(0,1),(1,1),(2,1)]) (zero:=[iZ,iZ,.bool false]) (cs:=[_,_,_]) Z) Z<|kb O (Yy (cs:=[iZ,iZ,.bool false])) (fun V b3 O=>?_))))))));refine ks O (YC Z Z Z O.g0 Z) (fun V O=>?_);refine Wn 3 Z<|ET<|Wi 4 Z<|S Z (Yx hd.hb Z Z Z (e:=138) Z) Z<|Wm 4 Z ?_;obtain⟨LL1,O,hLL1⟩:=O.named;refine bq ([6,7]++rg 21 36) (fun j t V=>∃(a:Nat),j+a=(cy (nV g)<|oX (nV g)<|nu [nO g,xX g]).length/\(∀p q,p<a->q<nV g->p≠q->Lf g p q=true->KG g q p=false)/\t.get 21=some (nI a)/\H V K LL1) ((cy (nV g)<|oX (nV g)<|nu [nO g,xX g]).length) ⟨0,Z,fun p q hp=>absurd hp (nZ_ _),Z,O⟩ ?_;clear O;intro j4 t V ar hI;obtain⟨a,a0,T,W,O⟩:=hI;subst hLL1;obtain⟨oo,rfl⟩:=ar.q1 W Z;refine Xa 6 Z<|aG Z (fun I=>?_) (fun I=>?_)
 ·refine UY 6 Z ?_;have C:a<nV g:=by have:=aS I;omega
  refine Wo 7 Z<|S Z (Yx hd.UW Z Z Z (e:=138) Z) Z<|Wm 4 Z ?_;obtain⟨LL2,O,hLL2⟩:=O.named;refine bq ([7]++rg 26 30) (fun j t V=>∃(c:Nat),j+c=(cy (nV g)<|oX (nV g)<|nu [vp g,xJ g,AF g]).length/\(∀q,q<c->a≠q->Lf g a q=true->KG g q a=false)/\t.get 26=some (nI c)/\H V K LL2) ((cy (nV g)<|oX (nV g)<|nu [vp g,xJ g,AF g]).length) ⟨0,Z,fun q hq=>absurd hq (nZ_ _),Z,O⟩ ?_;clear O;intro j7 t V ar hI;obtain⟨c,a1,E,X,O⟩:=hI;subst hLL2;obtain⟨oo,rfl⟩:=ar.q1 X Z;refine Xa 6 Z<|aG Z (fun M=>?_) (fun M=>?_)
  ·refine UY 6 Z ?_;have A:c<nV g:=by have:=aS M;omega
   refine Wo 9 Z<|ky Z (an Z) (fun F=>?_) (fun F=>?_)
   ·refine XP 2 Z<|Yp (e:=138) (m:=1) hd.hb (fG C) Z Z Z Z (fun a2 ap aa aq ab=>?_);obtain rfl:=ab;refine S Z (Yz O aa Z Z) Z (vQ 1 Z (S Z (aB (v:=.int .u64 (.ofNat (bN (nV g) ((oX (nV g)<|nu [nO g,xX g]) a)/2 ^ c))) Z Z<|xf oM) Z (S Z (aB (v:=.int .u64 (.ofNat (bN (nV g) ((oX (nV g)<|nu [nO g,xX g]) a)/2 ^ c &&& 1))) Z Z<|uX (Nat.lt_of_le_of_lt (Nat.div_le_self _ _)<|dG oM _) (by decide)) Z (S Z (aB (v:=.bool ((bN (nV g) ((oX (nV g)<|nu [nO g,xX g]) a)).testBit c)) Z Z (Gb)) Z<|vQ 1 Z<|ky Z (an Z) (fun N=>?_) (fun N=>?_)))))
    ·refine XP 2 Z<|Yp (e:=138) (m:=1) hd.UW (fG A) Z Z Z Z (fun a3 ax ac aE am=>?_);obtain rfl:=am;refine S Z (Yz O ac Z Z) Z (vQ 1 Z (S Z (aB (v:=.int .u64 (.ofNat (bN (nV g) ((oX (nV g)<|nu [vp g,xJ g,AF g]) c)/2 ^ a))) Z Z<|xf oM) Z (S Z (aB (v:=.int .u64 (.ofNat (bN (nV g) ((oX (nV g)<|nu [vp g,xJ g,AF g]) c)/2 ^ a &&& 1))) Z Z<|uX (Nat.lt_of_le_of_lt (Nat.div_le_self _ _)<|dG oM _) (by decide)) Z (S Z (aB (v:=.bool ((bN (nV g) ((oX (nV g)<|nu [vp g,xJ g,AF g]) c)).testBit a)) Z Z (Gb)) Z<|Xd 3 Z<|aG Z (fun R=>?_) (fun R=>?_)))))
     ·refine Xb 4 Z (S Z (Yt (places:=[(0,1),(1,1),(2,1)]) (zero:=[iZ,iZ,.bool false]) (cs:=[_,_,_]) Z) Z<|ks O (YC Z Z Z O.g0 Z) (fun V O=>?_));refine Xd 2 Z<|bz<|iE Z<|aT<|aV<|iE Z<|iE Z<|aT<|aV<|aQ<|Xb 2 Z<|S Z (SG Z O.g0 (n:=3) (vs:=[_,_,_]) Z) Z<|gF O Z (YC Z Z Z O.g1 Z) Z (fun V O=>?_);refine Xf 3 Z<|Ah (?_);exact dy Z Z O.g1 (m:=3) B Z ⟨⟨_,_,by rw[QX C A (fun e=>by rw[e,kY] at F;cases F) ((gK (p:=(oX (nV g)<|nu [nO g,xX g]) a) A).symm.trans N) ((gK (p:=(oX (nV g)<|nu [vp g,xJ g,AF g]) c) C).symm.trans R)]⟩,O.pop.pop.pop⟩
     refine aH<|aD<|XK 4 Z ?_;have hcl:=A;refine aJ ⟨j7-1,by omega,oF,c+1,by omega,fun q hq hne hh=>by by_cases e:q=c;(subst e;exact(gK (p:=(oX (nV g)<|nu [vp g,xJ g,AF g]) q) C).symm.trans R);exact E q oM hne hh,cI<|a6 oM,O⟩
    refine Wp 14 Z<|XK 4 Z ?_;have hcl:=A;refine aJ ⟨j7-1,by omega,oF,c+1,by omega,fun q hq hne hh=>by by_cases e:q=c;(subst e;rw[show Lf g a q=false from(gK (p:=(oX (nV g)<|nu [nO g,xX g]) a) A).symm.trans N] at hh;cases hh);exact E q oM hne hh,cI<|a6 oM,O⟩
   refine Wp 24 Z<|XK 4 Z ?_;have hcl:=A;refine aJ ⟨j7-1,by omega,oF,c+1,by omega,fun q hq hne hh=>by by_cases e:q=c;(subst e;exact absurd (yK.1<|dg F) hne);exact E q oM hne hh,cI<|a6 oM,O⟩
  refine Wl 3 Z<|aQ<|aD<|XK 4 Z ?_;have ao:c=nV g:=by have:=bI M;omega
  subst ao;refine aJ ⟨j4-1,by omega,oF,a+1,by omega,fun p q hp hq hne hh=>by by_cases e:p=a;(subst e;exact E q hq hne hh);exact T p q oM hq hne hh,cI<|a6 oM,O⟩
 refine Wl 3 Z<|aQ<|Xb 2 Z<|S Z (SG Z O.g0 (n:=3) (vs:=[_,_,_]) Z) Z<|gF O Z (YC Z Z Z O.g1 Z) Z (fun V O=>?_);refine Xf 3 Z<|Ah (?_);exact dy Z Z O.g1 (m:=3) B Z ⟨⟨_,_,by rw[QY fun p q hp hq=>T p q (by have:=bI I;omega) hq]⟩,O.pop.pop.pop⟩
theorem HP (F:Plain G) {I R up us:Y} (hg:eS K g va vb vc vd) (C:n9 K g I N R T ue up ul us uh) (W:eE g) (O:H V K L):
  EC G 150 [.agg (va::vb::vc::vd::gb (nV g) I N R T ue up ul us uh)] V fun u V'=>∃E c,KP.le K E/\u= .agg [nI<|nV g,.slice c 0 (nV g) (.known<|nV g)]/\H V' E ((c,.row ((cy (nV g)<|vz g).map gU) 138 false)::L):=by
 have hvl:=wX W;refine XD F Tryz.func150 Z<|Xb 2 Z<|kb O (cL Z Z) (fun V b1 O=>?_);refine kb O (Yy (cs:=[iZ,.aw])) (fun V b2 O=>?_);refine Wu O 7 [4,0,0] Z Z<|S Z (YE Z O.g1 Z) Z<|XS O 3 [4,0,2] Z Z<|S Z (YE Z O.g1 Z) Z<|XS O 3 [4,0,4] Z Z<|S Z (YE Z O.g1 Z) Z<|XS O 3 [4,0,6] Z Z<|S Z (YE Z O.g1 Z) Z<|gE O Z (cM (e:=165) (m:=2) (z:=[iZ,.aw]) (cs:=[_,_,_,_,_,_,_,_]) B B B B<|bn Z Z Z Z<|bn Z Z Z Z<|bn Z Z Z Z<|bn Z Z Z Z cD) (fun _=>Z) (fun V b3 O=>?_);obtain⟨E,A,mema,O⟩:=H.bZ (M:=[_]) O;have hla:=Pc (n:=nV g) (mema _<|mS_ ..) (C.po.mono A fun _ _ h=>h) (C.rf.mono A fun _ _ h=>h) (C.co.mono A fun _ _ h=>h) (C.fr.mono A fun _ _ h=>h);refine kw (Yu Z Z Z) (RC F (n:=nV g) oM hla (Nat.succ_pos _) O) ?_;rintro _ V ⟨X,rfl,O⟩;refine gF O Z (YB Z Z Z O.g1 Z) Z (fun V O=>?_);refine Xf 3 Z ?_;exact dy Z Z O.g1 (m:=2) B Z ⟨E,X,A,Z,O.sub (.cons_cons _ (.cons _ (.cons _ (.refl _))))⟩
theorem RI (I:Plain G) {A C E F up us:Y} (hg:eS K g va vb vc vd) (hd:n9 K g A C E F ue up ul us uh) (M:eE g) (O:H V K L):
  EC G 142 [.agg (va::vb::vc::vd::gb (nV g) A C E F ue up ul us uh)] V fun u V'=>(∃x y,u= .agg [.int .i64 x,.int .i64 y,.bool<|fW g 1])/\H V' K L:=by
 have hvl:=wX M;refine XD I Tryz.func142 Z<|Xb 2 Z<|kb O (cL Z Z) (fun V b1 O=>?_);refine kb O (Yy (cs:=[iZ,iZ,.bool false])) (fun V b2 O=>?_);refine Wo 4 Z (S Z (Yt (places:=[(0,1),(1,1),(2,1)]) (zero:=[iZ,iZ,.bool false]) (cs:=[_,_,_]) Z) Z<|ks O (YC Z Z Z O.g0 Z) (fun V O=>?_));refine Xf 3 Z ?_;exact dy Z Z O.g0 (m:=3) B Z ⟨⟨_,_,by rfl⟩,O.pop.pop⟩
theorem RJ (A:Plain G) {C E F I up us:Y} (hg:eS K g va vb vc vd) (M:n9 K g C E F I ue up ul us uh) (N:eE g) (O:H V K L):
  EC G 144 [.agg (va::vb::vc::vd::gb (nV g) C E F I ue up ul us uh)] V fun u V'=>(∃x y,u= .agg [.int .i64 x,.int .i64 y,.bool<|fW g 3])/\H V' K L:=by
 have hvl:=wX N;refine XD A Tryz.func144 Z<|Xb 2 Z<|kb O (cL Z Z) (fun V b1 O=>?_);refine kb O (Yy (cs:=[iZ,iZ,.bool false])) (fun V b2 O=>?_);refine Wu O 7 [4,8,2] Z Z<|S Z (YE Z O.g1 Z) Z<|kw (Yu Z Z Z) (zP A (n:=nV g) oM M.OU O) ?_;rintro _ V ⟨⟨x7,y7,rfl⟩,O⟩;refine ks O (YC Z Z Z O.g0 Z) (fun V O=>?_);refine Xf 3 Z ?_;exact dy Z Z O.g0 (m:=3) B Z ⟨⟨_,_,by show _=Y.agg [_,_,.bool<|bT<|cW (Ai (nV g)<|oX (nV g)<|Cm g) 0];rw[show oX (nV g) (Cm g)=Cm g from Tb];rfl⟩,O.pop.pop⟩
theorem RK (A:Plain G) {C E F I up us:Y} (hg:eS K g va vb vc vd) (M:n9 K g C E F I ue up ul us uh) (N:eE g) (O:H V K L):
  EC G 146 [.agg (va::vb::vc::vd::gb (nV g) C E F I ue up ul us uh)] V fun u V'=>(∃x y,u= .agg [.int .i64 x,.int .i64 y,.bool<|fW g 4])/\H V' K L:=by
 have hvl:=wX N;refine XD A Tryz.func146 Z<|Xb 2 Z<|kb O (cL Z Z) (fun V b1 O=>?_);refine kb O (Yy (cs:=[iZ,iZ,.bool false])) (fun V b2 O=>?_);refine Wu O 7 [4,8,8] Z Z<|S Z (YE Z O.g1 Z) Z<|kw (Yu Z Z Z) (zP A (n:=nV g) oM M.hb O) ?_;rintro _ V ⟨⟨x7,y7,rfl⟩,O⟩;refine ks O (YC Z Z Z O.g0 Z) (fun V O=>?_);refine Xf 3 Z ?_;exact dy Z Z O.g0 (m:=3) B Z ⟨⟨_,_,by show _=Y.agg [_,_,.bool<|bT<|cW (Ai (nV g)<|oX (nV g)<|Lf g) 0];rw[show oX (nV g) (Lf g)=Lf g from Tb];rfl⟩,O.pop.pop⟩
theorem RM (N:Plain G) {R W up us:Y} (hg:eS K g va vb vc vd) (hd:n9 K g R T W X ue up ul us uh) (hR:eE g) (O:H V K L):
  EC G 148 [.agg (va::vb::vc::vd::gb (nV g) R T W X ue up ul us uh)] V fun u V'=>(∃x y,u= .agg [.int .i64 x,.int .i64 y,.bool<|fW g 6])/\H V' K L:=by
 have hvl:=wX hR;refine XD N Tryz.func148 Z<|Xb 2 Z<|kb O (cL Z Z) (fun V b1 O=>?_);refine kb O (Yy (cs:=[iZ,iZ,.bool false])) (fun V b2 O=>?_);refine Wo 4 Z<|S Z (SG Z O.g1 (n:=22) (vs:=[_,_,_,_,_,_,_,_,_,_,_,_,_,_,_,_,_,_,_,_,_,_]) Z) Z<|kw (Yu Z Z Z) (HP N hg hd hR O) ?_;rintro _ V ⟨K1,c1,A,rfl,O⟩;obtain⟨K2,C,E,O⟩:=H.bZ (M:=[_]) O;have hto:=fP (E _<|mS_ ..) (cP (nV g)<|vz g) oM;refine kw (Yu Z Z Z) (Du N (n:=nV g) oM hto O) ?_;rintro _ V ⟨c2,rfl,O⟩;obtain⟨K3,F,I,O⟩:=H.bZ (M:=[_]) O;have htp:=fP (I _<|mS_ ..) (cP (nV g)<|oX (nV g)<|vz g) oM;refine kw (Yu Z Z Z) (zP N (n:=nV g) oM htp O) ?_;rintro _ V ⟨⟨x6,y6,rfl⟩,O⟩;refine ks O (YC Z Z Z O.g0 Z) (fun V O=>?_);refine Xf 3 Z ?_;exact dy Z Z O.g0 (m:=3) B Z ⟨⟨_,_,by rfl⟩,(O.pop.pop).weaken<|KP.le_trans A<|KP.le_trans C F⟩
def Ph:Nat->Nat
 | 1=>142
 | 2=>143
 | 3=>144
 | 4=>146
 | 5=>147
 | 6=>148
 | _=>0
def Cp:List Y:=[.nilFunc,.func 142 [] [],.func 143 [] [],.func 144 [] [],.func 146 [] [],.func 147 [] [],.func 148 [] []]
theorem LX {r:Nat} (h1:1<=r) (u:r<=6):nth Cp (0+r*1)=some (.func (Ph r) [] []):=by
 match r,h1,u with
 | 1,_,_ | 2,_,_ | 3,_,_ | 4,_,_ | 5,_,_ | 6,_,_=>rfl
theorem R5 {r:Nat} (h1:1<=r) (u:r<=6):lz Tryz.prog (Ph r)=true:=by
 match r,h1,u with
 | 1,_,_=>exact(show lz Tryz.prog 148=true by kernel_rfl)
 | 2,_,_=>exact(show lz Tryz.prog 149=true by kernel_rfl)
 | 3,_,_=>exact(show lz Tryz.prog 150=true by kernel_rfl)
 | 4,_,_=>exact(show lz Tryz.prog 152=true by kernel_rfl)
 | 5,_,_=>exact(show lz Tryz.prog 153=true by kernel_rfl)
 | 6,_,_=>exact(show lz Tryz.prog 154=true by kernel_rfl)
theorem Uh (A:Plain G) {I M R up us:Y} (C:eS K g va vb vc vd) (E:n9 K g I M N R ue up ul us uh) (F:eE g) {r:Nat} (h1:1<=r) (T:r<=6) (O:H V K L):EC G (Ph r) [.agg (va::vb::vc::vd::gb (nV g) I M N R ue up ul us uh)] V fun u V'=>(∃x y,u= .agg [.int .i64 x,.int .i64 y,.bool<|fW g (.ofNat r)])/\H V' K L:=by
 match r,h1,T with
 | 1,_,_=>exact RI A C E F O
 | 2,_,_=>exact OL A C E F O
 | 3,_,_=>exact RJ A C E F O
 | 4,_,_=>exact RK A C E F O
 | 5,_,_=>exact Fz A C E F O
 | 6,_,_=>exact RM A C E F O
theorem RN (u:Plain G) (O:H V K L):
  Ca G K L 111 [] V <| .agg Cp:=by
 refine XD u Tryz.func111 Z<|Xb 2 Z<|kb O (Yy (cs:=[.nilFunc,.nilFunc,.nilFunc,.nilFunc,.nilFunc,.nilFunc,.nilFunc])) (fun V b1 O=>?_);refine Wo 4 Z<|S Z (Gn (e:=176) (n:=7) (m:=1) (zero:=[.nilFunc,.nilFunc,.nilFunc,.nilFunc,.nilFunc,.nilFunc,.nilFunc]) (cs:=[_,_,_,_,_,_,_]) B B B Z) Z<|ks O (UM Z Z Z O.g0 (m:=7) Z Z (cells':=[_,_,_,_,_,_,_]) Z) (fun V O=>?_);refine Xf 3 Z ?_;exact dy Z Z O.g0 (m:=7) B Z ⟨Z,O.pop⟩
theorem RD (I:Plain G) {m:Int} (hm:m=1∨m=2) (O:H V K L):
  EC G 112 [.int .i64 m] V fun u V'=>∃E,KP.le K E/\bG E 1 dB (gP m) u/\H V' E L:=by
 refine XD I Tryz.func112 Z<|Xa 11 Z<|aK<|Xb 2 Z<|ky Z (aB Z Z Z) (fun h5=>?_) (fun h5=>?_)
 ·refine Wo 6 Z<|gE O Z (cM (e:=3) (m:=1) (z:=[iZ]) (cs:=[_,_,_]) B B B B<|bn Z Z Z Z<|bn Z Z Z Z<|bn Z Z Z Z cD) (fun _=>Z) (fun V N O=>?_);refine Xf 4 Z<|aI<|aA (?_);obtain⟨E,A,C,O⟩:=H.bZ (M:=[_]) O;exact az Z Z ⟨E,A,by rw[show gP m= [1,2,6] from by unfold gP;rw[show bD m 1=true from h5];rfl];exact ux (l:=[1,2,6]) (C _<|mS_ ..) Z (by decide),O⟩
 refine Wo 6 Z<|ky Z (aB Z Z Z) (fun F=>?_) (fun F=>?_)
 ·refine Wo 6 Z<|gE O Z (cM (e:=3) (m:=1) (z:=[iZ]) (cs:=[_,_,_,_,_]) B B B B<|bn Z Z Z Z<|bn Z Z Z Z<|bn Z Z Z Z<|bn Z Z Z Z<|bn Z Z Z Z cD) (fun _=>Z) (fun V N O=>?_);refine Xf 4 Z<|aI<|aA (?_);obtain⟨E,A,C,O⟩:=H.bZ (M:=[_]) O;exact az Z Z ⟨E,A,by rw[show gP m= [1,2,3,4,5] from by unfold gP;rw[show bD m 1=false from h5,show bD m 2=true from F];rfl];exact ux (l:=[1,2,3,4,5]) (C _<|mS_ ..) Z (by decide),O⟩
 refine Wp 6 Z<|XN 6 Z ?_;rcases hm with e | e
 ·rw[e] at h5;cases h5
 rw[e] at F;cases F
theorem Jw (u:Plain G) (m:Int) (O:H V K L):
  Ca G K L 74 [.int .i64 m] V <| .bool (bif bD m 1 then true else bD m 2):=by
 refine XD u Tryz.func74 Z<|Xb 9 Z<|ky Z (an Z) (fun h5=>?_) (fun h5=>?_)
 ·refine Xf 7 Z ?_;exact az Z Z ⟨cB (by rw[show bD m 1=true from h5];rfl),O⟩
 refine Xf 7 Z ?_;exact az Z Z ⟨cB (by rw[show bD m 1=false from h5];rfl),O⟩
theorem Pj {m x:Int} {i:Nat} (h:(gP m)[i]? =some x):∃r:Nat,x= .ofNat r/\1<=r/\r<=6:=by
 have hm:=gB_ h;unfold gP at hm;cases h1:bD m 1 with
 | true=>
  rw[h1] at hm;have hm:x∈([1,2,6]:List Int):=hm;simp only[mQ_,List.not_mem_nil,or_false] at hm;rcases hm with rfl | rfl | rfl
  ·exact⟨1,Z,by omega,by omega⟩
  ·exact⟨2,Z,by omega,by omega⟩
  exact⟨6,Z,by omega,by omega⟩
 | false=>
  rw[h1] at hm;cases u:bD m 2 with
  | false=>rw[u] at hm;cases hm
  | true=>
   rw[u] at hm;have hm:x∈([1,2,3,4,5]:List Int):=hm;simp only[mQ_,List.not_mem_nil,or_false] at hm;rcases hm with rfl | rfl | rfl | rfl | rfl
   ·exact⟨1,Z,by omega,by omega⟩
   ·exact⟨2,Z,by omega,by omega⟩
   ·exact⟨3,Z,by omega,by omega⟩
   ·exact⟨4,Z,by omega,by omega⟩
   exact⟨5,Z,by omega,by omega⟩
theorem MU {p:α->Bool} {l:List α} {i:Nat} {x:α} (u:(l.take i).any p=false) (hx:l[i]? =some x) (hp:p x=false):(l.take (i+1)).any p=false:=by
 rw[zb_,hx,List.any_append,u];show(false || (p x || false))=false;rw[hp];rfl
theorem QB {p:α->Bool} {l:List α} {i:Nat} {x:α} (hx:l[i]? =some x) (hp:p x=true):l.any p=true:=List.any_eq_true.2 ⟨x,gB_ hx,hp⟩
theorem MT {p:α->Bool} {l:List α} {i:Nat} (u:(l.take i).any p=false) (h:l.length<=i):l.any p=false:=by rw[tL_ h] at u;exact u
theorem N9 {m:Int} (h:(bif bD m 1 then true else bD m 2)=false):gP m= []:=by
 unfold gP;cases h1:bD m 1 with
 | true=>rw[h1] at h;cases h
 | false=>
  rw[h1] at h;rw[show bD m 2=false from h];rfl
theorem v8 {m:Int} (hm:m=1∨m=2):bD (.ofNat (gP m).length) 0=false:=by rcases hm with rfl | rfl<;>rfl
theorem Ka {m:Int} (hm:m=1∨m=2) (h:bD (eu g) 0=false):Bf m g=true:=by unfold Bf;rw[v8 hm,h];rfl
theorem CD {m:Int} (hm:m=1∨m=2) (u:eE g):Bf m g=(gP m).any (fW g):=by unfold Bf;rw[v8 hm,hJ.2 u];rfl
theorem Vv (R:Plain G) (hg:eS K g va vb vc vd) {m:Int} (hm:m=1∨m=2) (O:H V K L):
  EC G 75 [.int .i64 m,.agg [va,vb,vc,vd]] V fun v V'=>(∃x y z,v= .tuple [.agg [.int .i64 x,.int .i64 y,.int .i64 z],.bool<|Bf m g])/\H V' K L:=by
 refine XD R Tryz.func75 Z<|Xb 2 Z<|kb O (cL Z Z) (fun V b1 O=>?_);refine kb O (Yy (cs:=[iZ,iZ,iZ])) (fun V b2 O=>?_);refine VE 7 Z<|kx (Yu Z Z Z) (Jw R m O) (fun V O=>?_);rw[show(bif bD m 1 then true else bD m 2)=true from by rcases hm with rfl | rfl<;>rfl];refine S Z (ek Z) Z<|Xd 3 Z<|Wk 4 Z<|S Z (YF Z O.g1 Z) Z<|kw (Yu Z Z Z) (RF R hg O) ?_;rintro _ V (⟨hne,rfl,O⟩ | ⟨hR,K1,u0,u1,u2,u3,ue,up,ul,us,uh,rfl,C,hd,O⟩)
 ·refine XP 3 Z<|kb O (Yy (cs:=[.aw,.aw,.aw,.aw,iZ,.aw,iZ,.aw,iZ,.aw,iZ,.aw,iZ,.aw,iZ,.aw,iZ,.aw,iZ,.aw,iZ,.aw])) (fun V b3 O=>?_);refine bO O Z (UM Z Z Z O.g0 (m:=22) Z (aj hg.init.leaf.2<|aj hg.threads.leaf.2<|aj hg.from_.leaf.2<|aj hg.order.leaf.2 Z) (cells':=[_,_,_,_,_,_,_,_,_,_,_,_,_,_,_,_,_,_,_,_,_,_]) Z) Z (fun V O=>?_);refine VE 7 Z (S Z (ek Z) Z (Wo 5 Z (S Z (Yt (places:=[(0,1),(1,1),(2,1)]) (zero:=[iZ,iZ,iZ]) (cs:=[_,_,_]) Z) Z<|gF O Z (YC Z Z Z O.g1 Z) Z (fun V O=>?_))));refine Wq 5 Z ?_;exact eL Z Z O.g1 (m:=3) B Z Z ⟨⟨_,_,_,by rw[Ka hm hne]⟩,O.pop.pop.pop⟩
 replace hg:=hg.mono C;refine XP 3 Z<|kb O (Yy (cs:=[.aw,.aw,.aw,.aw,iZ,.aw,iZ,.aw,iZ,.aw,iZ,.aw,iZ,.aw,iZ,.aw,iZ,.aw,iZ,.aw,iZ,.aw])) (fun V b3 O=>?_);refine bO O Z (UM Z Z Z O.g0 (m:=22) Z (aj hg.init.leaf.2<|aj hg.threads.leaf.2<|aj hg.from_.leaf.2<|aj hg.order.leaf.2<|aj Z<|aj hd.po.leaf.2<|aj Z<|aj hd.rf.leaf.2<|aj Z<|aj hd.co.leaf.2<|aj Z<|aj hd.fr.leaf.2<|aj Z<|aj hd.UW.leaf.2<|aj Z<|aj hd.OU.leaf.2<|aj Z<|aj hd.loc.leaf.2<|aj Z<|aj hd.sw.leaf.2<|aj Z<|aj hd.hb.leaf.2 aC) (cells':=[_,_,_,_,_,_,_,_,_,_,_,_,_,_,_,_,_,_,_,_,_,_]) Z) Z (fun V O=>?_);refine VE 7 Z<|S Z (ek Z) Z<|Xd 3 Z<|Wk 4 Z<|kx (Yu Z Z Z) (RN R O) (fun V O=>?_);refine kb O (Yy (cs:=[.nilFunc,.nilFunc,.nilFunc,.nilFunc,.nilFunc,.nilFunc,.nilFunc])) (fun V b4 O=>?_);refine ks O (UM Z Z Z O.g0 (m:=7) Z Z (cells':=[_,_,_,_,_,_,_]) Z) (fun V O=>?_);refine VE 6 Z<|kw (Yu Z Z Z) (RD R hm O) ?_;rintro ac V ⟨K2,u,I,O⟩;replace hg:=hg.mono u;replace hd:=hd.mono u;refine S Z (Yx I Z Z Z (e:=3) Z) Z<|Wm 4 Z ?_;obtain⟨LL1,O,hLL1⟩:=O.named;refine bq ([5,10,11]++rg 28 18) (fun j t V=>∃(i:Nat),j+i=(gP m).length/\((gP m).take i).any (fW g)=false/\t.get 28=some (nI i)/\H V K2 LL1) ((gP m).length) ⟨0,Z,Z,Z,O⟩ ?_;clear O;intro j8 t V ar hI;obtain⟨i,am,F,T,O⟩:=hI;subst hLL1;obtain⟨oo,rfl⟩:=ar.q1 T Z;refine Xa 6 Z<|aG Z (fun E=>?_) (fun E=>?_)
 ·refine UY 6 Z ?_;obtain⟨ao,A,_⟩:=dh E;obtain⟨r,rfl,M,N⟩:=Pj A;refine Yp (e:=3) (m:=1) I A Z Z Z Z (fun ap aa W ab X=>?_);obtain rfl:=X;refine S Z (Yz O W Z Z) Z (Wn 4 Z (aU (l:=[(0,[]),(1,[]),(2,[]),(3,[]),(5,[]),(4,[5]),(6,[])]) B B<|wQ 1 Z<|ah Z Z (lk (e:=176) (m:=1) (n:=7) (j:=r) B B Z Z oM) Z<|ah Z Z (av Z O.g0 B<|LX M N) Z<|ah Z Z (SG Z O.g1 (n:=22) (vs:=[_,_,_,_,_,_,_,_,_,_,_,_,_,_,_,_,_,_,_,_,_,_]) Z) Z<|w6 O Z Z (Yy (cs:=[iZ,iZ,.bool false])) (fun _=>Z) (fun V b5 O=>?_)));refine fC Z Z (aP Z Z Z<|R5 M N) (fun _=>Z) (Uh R hg hd hR M N O) ?_;rintro _ V ⟨⟨aq,ax,rfl⟩,O⟩;refine⟨(bx (Mj Z Z Z Z Z (cs:=[iZ,iZ,.bool false]) (e:=181) B O.g0 B) aY),?_⟩;refine pB O Z Z (YC Z Z Z O.g0 Z) Z (fun V O=>?_);refine⟨aY,?_⟩;refine Xg 2 Z<|Xb 2 Z<|XS O 2 [2,0] Z Z<|Xd 2 Z<|aG Z (fun Q=>?_) (fun Q=>?_)
  ·refine Xb 3 Z (XS O 4 [0,0,1,0] Z Z (S Z (Yt (places:=[(0,1),(1,1),(2,1)]) (zero:=[iZ,iZ,iZ]) (cs:=[_,_,_]) Z) Z<|T1 O Z (YC Z Z Z (O.get 3 Z) Z) Z (fun V O=>?_)));refine Xf 4 Z<|aI<|aA<|bP<|aI<|aA (?_);exact eL Z Z (O.get 3 Z) (m:=3) B Z Z ⟨⟨_,_,_,by rw[CD hm hR,QB A Q]⟩,(O.pop.pop.pop.pop.pop).weaken<|KP.le_trans C u⟩
  refine aH<|aD<|XK 4 Z ?_;have O:=O.pop;have hil:=aS E;refine aJ ⟨j8-1,by omega,oF,i+1,by omega,MU F A Q,cI<|a6 (by have:=I.cQ;omega),O⟩
 refine Wl 3 Z (aQ (Xb 2 Z (S Z (Yt (places:=[(0,1),(1,1),(2,1)]) (zero:=[iZ,iZ,iZ]) (cs:=[_,_,_]) Z) Z<|pz O Z (YC Z Z Z (O.get 2 Z) Z) Z (fun V O=>?_))));refine Xf 4 Z ?_;exact eL Z Z (O.get 2 Z) (m:=3) B Z Z ⟨⟨_,_,_,by rw[CD hm hR,MT F<|bI E]⟩,(O.pop.pop.pop.pop).weaken<|KP.le_trans C u⟩
theorem OI (A:Plain G) (C:eS K g va vb vc vd) (m:Int) (O:H V K L):
  Ca G K L 41 [.int .i64 m,.agg [va,vb,vc,vd]] V <| .tuple [.bool<|iq m g,.int .i64<|I4 m]:=by
 refine XD A Tryz.func41 Z<|Xb 2 Z<|kb O (cL Z Z) (fun V b1 O=>?_);refine VE 8 Z<|kx (Yu Z Z Z) (Jw A m O) (fun V O=>?_);refine S Z (ek Z) Z<|Xd 2 Z<|aG Z (fun u=>?_) (fun u=>?_)
 ·refine Xc 8 Z ?_;exact db Z Z Z ⟨by unfold iq I4;rw[N9<|eb u];rfl,O.pop⟩
 refine Wk 5 Z<|S Z (YF Z O.g0 Z) Z ?_;have hm:m=1∨m=2:=by have h:=dg u;cases h1:bD m 1 with | true=>exact .inl (Vc h1) | false=>rw[h1] at h;exact .inr<|Vc h
 refine kw (Yu Z Z Z) (Vv A C hm O) ?_;rintro _ V ⟨⟨x,y,z,rfl⟩,O⟩;refine XP 3 Z<|kb O (Yy (cs:=[iZ,iZ,iZ])) (fun V b2 O=>?_);refine ks O (YC Z Z Z O.g0 Z) (fun V O=>?_);refine Wo 6 Z<|S Z (ek Z) Z<|Xf 5 Z ?_;exact db Z Z Z ⟨by unfold iq I4;rw[v8 hm];rfl,O.pop.pop⟩
variable {F wrs:List (List bV)} {usO:List Y}
theorem LH (X M1 u A C R:List α) (a b c:α):(X++(C++a::(A++b::(u++c::(M1++R))))).Perm ((C++a::(A++b::(u++c::M1)))++(X++R)):=by
 classical
 rw[List.perm_iff_count];intro y;simp only[List.count_append,List.count_cons];omega
theorem Ts (T:Plain G) {a b c d:Y} (h:eS K g a b c d) (hf:Qv g) (O:H V K L):
  EC G 42 [.agg [a,b,c,d]] V fun v V'=>∃M M1 E u N F A Q I C R,v= .agg (VZ g M E F I)/\U4 g M M1 E u N F A Q I C R/\H V' K (Vt M1 E u N F A Q I C R L):=by
 refine XD T Tryz.func42 Z<|Xb 2 Z<|kb O (cL Z Z) (fun V r1 O=>?_);refine kb O (Yy (cs:=[.aw,.aw,.aw,.aw])) (fun V r2 O=>?_);refine Wo 4 Z<|S Z (YF Z O.g1 Z) Z<|kw (Yu Z Z Z) (PL T h hf O) ?_;rintro _ V ⟨M,M1,E,u,N,F,A,Q,I,C,R,rfl,hO,O⟩;refine fM O (.dz (.there (.dz (.there (.dz (.there (.dz .here))))))) Z (UM Z Z Z O.cF.pop.cF.pop.cF.pop.cF.g0 (m:=4) Z (aj hO.init.leaf.2 Z) (cells':=[_,_,_,_]) Z) Z (fun V O=>?_);refine Xf 3 Z ?_;exact dy Z Z O.cF.pop.cF.pop.cF.pop.cF.g0 (m:=4) B Z ⟨M,M1,E,u,N,F,A,Q,I,C,R,Z,hO,O.sub<|fR (.cons_cons _<|fR (.cons_cons _<|fR (.cons_cons _<|fR (.cons _ (.cons _ (.refl _))))))⟩
theorem QC (M:Plain G) {X R:Own} {a b c d:Y} (h:eS (K.gw X) g a b c d) (hf:Qv g) (O:H V K (X++R)):
  EC G 42 [.agg [a,b,c,d]] V fun v V'=>∃K' a' b' c' d',v= .agg [a',b',c',d']/\KP.le K K'/\eS K' g a' b' c' d'/\H V' K' (X++R):=
 (Ts M h hf O.keeps).mono fun v V' ⟨u1,M1,N,E,M2,Q,F,M3,T,I,M4,hv,hO,A⟩=>by
  obtain⟨K',hle,u,C⟩:=((H.lj O A).perm<|LH ..).bZ;refine⟨K',_,_,_,_,hv,hle,⟨hO.init.gB fun e he=>u e ?_,hO.threads.gB (fun e he=>u e ?_) (u (N,.row E 41 false) ?_) Z (by have:=hf.2.1;omega),hO.from_.gB (fun e he=>u e ?_) (u (Q,.row F 57 false) ?_) Z (by have:=hf.2.2.2.1;omega),hO.order.gB (fun e he=>u e ?_) (u (T,.row I 57 false) ?_) Z (by have:=hf.2.2.2.2.2.1;omega)⟩,C⟩<;>simp_all
def qi (wrs:List (List bV)) (init:List Int) (threads:List (List bW)) (F:List (List bV)) (x:Nat) (os:List (List bV)):List XG:=(jq ((wrs.drop x).map fS)).map fun r=>⟨init,threads,F,os++r⟩
theorem Bs {init:List Int} {threads:List (List bW)} {x:Nat} {os:List (List bV)} (h:wrs.length<=x):qi wrs init threads F x os= [⟨init,threads,F,os⟩]:=by
 unfold qi;rw[List.drop_of_length_le h];show [(⟨init,threads,F,os++[]⟩:XG)]=_;rw[zk_]
theorem EB {init:List Int} {threads:List (List bW)} {x:Nat} {os:List (List bV)} {w:List bV} (h:wrs[x]? =some w):qi wrs init threads F x os=(fS w).flatMap fun o=>qi wrs init threads F (x+1) (os++[o]):=by
 unfold qi;obtain⟨hx,rfl⟩:=gA.1 h;rw[zj_ hx,List.map_cons];show((fS wrs[x]).flatMap fun o=>(jq ((wrs.drop (x+1)).map fS)).map (o::·)).map _=_
 rw[List.map_flatMap];refine congrArg (fun f=>List.flatMap f (fS wrs[x]))<|funext fun o=>?_;rw[List.map_map];refine List.map_congr_left fun r _=>?_
 show(⟨init,threads,F,os++o::r⟩:XG)=⟨init,threads,F,(os++[o])++r⟩;rw[lQ_];rfl
structure yb (K:KP) (m:Int) (init:List Int) (threads:List (List bW)) (wrs:List (List bV)) (vi vt p2 p3 p4 vF:Y) (bp bmn bg bo ba bc:Nat):Prop where
 pl:K bp (.row [vi,vt,p2,p3,p4] 59 false)
 mn:K bmn (.row [.int .i64 m] 3 false)
 gr:K bg (.row [vi,vt,vF,.slice bo 0 wrs.length (.known wrs.length)] 34 false)
 pc:K bc (.row [.func 40 [] [.ptr bp 0,.ptr bmn 0,.ptr bg 0,.ptr ba 0,.ptr bc 0]] 92 false)
 hi:bG K 1 dB init vi
 hw:bG K 1 (RL K 2 fj) wrs p4
theorem yb.mono {K K':KP} {m:Int} {init:List Int} {threads:List (List bW)} {wrs:List (List bV)} {vi vt u A C vF:Y} {bp bmn bg bo ba bc:Nat} (h:yb K m init threads wrs vi vt u A C vF bp bmn bg bo ba bc) (hk:KP.le K K'):yb K' m init threads wrs vi vt u A C vF bp bmn bg bo ba bc:=
 ⟨hk _ _ h.pl,hk _ _ h.mn,hk _ _ h.gr,hk _ _ h.pc,h.hi.mono hk fun _ _ h=>h,h.hw.mono hk fun _ _ h=>h.mono hk⟩
structure oa (K:KP) (os:List (List bV)) (usO:List Y) (n:Nat):Prop where
 len:usO.length=n
 leaf:∀v∈usO,cE v=some [v]/\eX v=true
 at_:∀(y:Nat) (l:List bV),os[y]? =some l->∃v,usO[y]? =some v/\bG K 2 fj l v
theorem oa.gB {os:List (List bV)} {n b:Nat} (h:oa K os usO n) (hn:os.length=n) (aa:n<=1000) (hb:K b (.row usO e false)):bG K 1 (RL K 2 fj) os (.slice b 0 n (.known n)):=by
 refine .inr ⟨b,0,_,usO,e,false,by rw[hn],.inr ⟨_,Z,by omega⟩,hb,by rw[h.len];omega,by omega,fun i x hx=>?_⟩;obtain⟨v,h1,u⟩:=h.at_ i x hx;refine⟨v,?_,u⟩;rw[Nat.mul_one,nA_];obtain⟨hi,rfl⟩:=gA.1 h1;rw[zj_ hi];rfl
theorem oa.mono {K K':KP} {os:List (List bV)} {usO:List Y} {n:Nat} (h:oa K os usO n) (hk:KP.le K K'):oa K' os usO n:=⟨h.len,h.leaf,fun y l hl=>let ⟨v,h1,u⟩:=h.at_ y l hl;⟨v,h1,u.mono hk fun _ _ h=>h⟩⟩
theorem oa.push {os:List (List bV)} {n x:Nat} {l:List bV} {v:Y} (h:oa K os usO n) (hx:os.length=x) (hn:x<n) (hv:bG K 2 fj l v) (hl:cE v=some [v]/\eX v=true):oa K (os++[l]) (usO.set x v) n:=by
 refine⟨by rw[zg_];exact h.len,fun w hw=>?_,fun y r u=>?_⟩
 ·rcases List.mem_or_eq_of_mem_set hw with hw | rfl
  ·exact h.leaf w hw
  exact hl
 by_cases e:y<os.length
 ·rw[gL_ e] at u;obtain⟨w,h1,A⟩:=h.at_ y r u;exact⟨w,by rw[List.getElem?_set_ne oM];exact h1,A⟩
 have hy:=(gA.1 u).1;rw[lA_,zq_] at hy;obtain rfl:y=os.length:=by omega
 rw[gR_<|nR_ _,Nat.sub_self] at u;cases u;exact⟨v,by rw[<-hx];exact List.getElem?_set_self (by rw[h.len];omega),hv⟩
theorem cons_right {m:Int} (hm:m=1∨m=2) (h:iq m g=true):eu g=0:=by
 cases hc:bD (eu g) 0 with
 | true=>exact UX hc
 | false=>
  unfold iq at h;rw[Ka hm hc] at h;revert h;cases bD (.ofNat (gP m).length) 0<;>intro h<;>cases h
theorem TE (h:eu g=0):Qv g:=by
 obtain⟨b1,b2,u,A,b5,C,b7⟩:=lI h;exact⟨by omega,by omega,fun l hl=>by have:=u l hl;omega,by omega,fun l hl=>by have:=Ad C A u l hl;omega,by omega,fun l hl=>by have:=oE h l hl;omega⟩
variable {us:List Y} {ba bc bg bmn bo bp:Nat} {p2 p3 p4 vF vi vt:Y}
section
variable {α:Type}
theorem RS (X R:List α) (a o:α):(a::(X++o::R)).Perm ((X++[o])++(a::R)):=by
 classical
 rw[List.perm_iff_count];intro y;simp only[List.count_append,List.count_cons,List.count_nil];omega
theorem RT (X M L:List α) (y s a:α):(y::(X++(s::a::(M++L)))).Perm (y::(M++(X++(s::a::L)))):=by
 classical
 rw[List.perm_iff_count];intro y;simp only[List.count_append,List.count_cons];omega
theorem RV (X M L:List α) (o s a:α):(M++((X++[o])++(s::a::L))).Perm (s::(X++(o::a::(M++L)))):=by
 classical
 rw[List.perm_iff_count];intro y;simp only[List.count_append,List.count_cons,List.count_nil];omega
theorem RW (X R:List α) (o s:α):((X++[o])++(s::R)).Perm (s::(X++(o::R))):=by
 classical
 rw[List.perm_iff_count];intro y;simp only[List.count_append,List.count_cons,List.count_nil];omega
theorem Jz (X M R:List α) (a b:α):(M++(a::b::(X++R))).Perm (a::((X++b::M)++R)):=by
 classical
 rw[List.perm_iff_count];intro y;simp only[List.count_append,List.count_cons];omega
end
theorem GW {e:Nat×cd} (h:H V K (e::L)):∃e',e'=e/\H V K (e'::L):=⟨e,Z,h⟩
def p7 {α:Type} (m E:Nat) (R:α->List Y->Prop) (l:List α) (u:Y) (M:Own):Prop:=cO m E R l u M/\(l≠[]∨u= .aw)
theorem p7.jN {α:Type} {m E:Nat} {R R':α->List Y->Prop} {l:List α} {u:Y} {M:Own} (h:p7 m E R l u M) (A:∀x vs,R x vs->R' x vs):p7 m E R' l u M:=⟨h.1.jN A,h.2⟩
theorem oa.agree {os:List (List bV)} {u:List Y} {n x:Nat} (h:oa K os us n) (hx:os.length<=x) (hl:u.length=n) (hf:∀v∈u,cE v=some [v]/\eX v=true) (he:∀y,y<x->u[y]? =us[y]?):oa K os u n:=
 ⟨hl,hf,fun y l hy=>let ⟨v,h1,A⟩:=h.at_ y l hy;⟨v,by rw[he y (by have:=(gA.1 hy).1;omega)];exact h1,A⟩⟩
theorem JM {α β:Type} {f:α->List β} {p:β->Bool} {acc:List β} {T pre:List α} {o:α} {N:Nat} (hp:(pre++[o])<+:T) (h:acc.length+(T.flatMap f).length<=N):(acc++(pre.flatMap f).filter p).length+(f o).length<=N:=by
 obtain⟨tl,rfl⟩:=hp;rw[List.flatMap_append,List.flatMap_append,lA_,lA_,List.flatMap_singleton] at h;have:=List.length_filter_le p (pre.flatMap f);rw[lA_];omega
def To (m:Int) (init:List Int) (threads:List (List bW)) (wrs:List (List bV)) (F os:List (List bV)) (x bo ba bl bm:Nat) (lo:cd) (X L:Own) (usO:List Y) (acc:List XG) (K:KP) (accO:List (List bV)) (L':Own):Prop:=
 ∃usO' ua' Ma',oa (K.gw X) os usO' wrs.length/\(∀y,y<x->usO'[y]? =usO[y]?)/\p7 4 34 (RG K) (acc++((accO.flatMap fun o=>qi wrs init threads F (x+1) (os++[o])).filter<|iq m)) ua' Ma'/\L'=(bl,lo)::(bm,.mark)::(X++(bo,.row usO' 57 false)::(ba,.row [ua'] 26 false)::(Ma'++L))
theorem QE (hG:Plain G) {m:Int} (hm:m=1∨m=2) {init:List Int} {threads:List (List bW)} (hn:wrs.length<=6) (a0:∀w∈wrs,w.length<=1000):
  ∀(f x:Nat) (K:KP) (X:Own) (F os:List (List bV)) (usO:List Y) (ua:Y) (Ma:Own) (acc:List XG) (V:D),x+f=wrs.length->os.length=x->yb K m init threads wrs vi vt p2 p3 p4 vF bp bmn bg bo ba bc->bG (K.gw X) 1 (RL K 5 iN) threads vt->bG (K.gw X) 1 (RL (K.gw X) 2 fj) F vF->oa (K.gw X) os usO wrs.length->p7 4 34 (RG K) acc ua Ma->acc.length+(qi wrs init threads F x os).length<=1000000->H V K (X++(bo,.row usO 57 false)::(ba,.row [ua] 26 false)::(Ma++L))->
   EC G 40 [nI x,.ptr bp 0,.ptr bmn 0,.ptr bg 0,.ptr ba 0,.ptr bc 0] V fun _ V'=>∃K' usO' ua' Ma',KP.le K K'/\usO'.length=wrs.length/\(∀v∈usO',cE v=some [v]/\eX v=true)/\(∀y,y<x->usO'[y]? =usO[y]?)/\p7 4 34 (RG K') (acc++(qi wrs init threads F x os).filter (iq m)) ua' Ma'/\H V' K' (X++(bo,.row usO' 57 false)::(ba,.row [ua'] 26 false)::(Ma'++L)):=by
 intro f;induction f with
 | zero=>
  intro x K X F os usO ua Ma acc V hx ap N am hF hR hA hb O;refine ES hG Tryz.func40 Z (t:=(((((PT.leaf.put (some<|nI x) 0).put (some (.ptr bp 0)) 1).put (some (.ptr bmn 0)) 2).put (some (.ptr bg 0)) 3).put (some (.ptr ba 0)) 4).put (some (.ptr bc 0)) 5) (by rfl)<|fJ<|ia ?_;refine af Z<|kb O (cL Z Z) (fun V b6 O=>?_);refine ae<|dC<|fJ<|ia ?_;refine Xb 2 Z<|XS O 2 [0,4] Z Z<|S Z (Yw Z (O.bJ N.pl) Z) Z<|S Z (Yx N.hw Z Z Z (e:=57) Z) Z<|Xd 3 Z<|aG Z (fun Q=>?_) (fun Q=>absurd Q (by rw[show x=wrs.length by omega,dS];simp));refine Wi 3 Z<|S Z (Yw Z (O.bJ N.mn) Z) Z<|S Z (YF Z (O.bJ N.gr) Z) Z ?_;replace O:=O.perm (RS ..);have T:KP.le (K.gw X) (K.gw (X++[(bo,.row usO 57 false)])):=iD (KP.le_refl _) fun e he=>List.mem_append_left _ he
  have hg:eS (K.gw (X++[(bo,.row usO 57 false)])) ⟨init,threads,F,os⟩ vi vt vF (.slice bo 0 wrs.length (.known wrs.length)):=⟨N.hi.mono (KP.cR _ _) fun _ _ h=>h,am.mono T fun _ _ h=>h.mono (KP.cR _ _),hF.mono T fun _ _ h=>h.mono T,(hR.mono T).gB oM oM (.inr<|List.mem_append_right _ (.head _))⟩;refine kw (Yu Z Z Z) ((OI hG hg m O.keeps).mono (R':=fun v V'=>v= .tuple [.bool<|iq m ⟨init,threads,F,os⟩,.int .i64<|I4 m]/\H V' K ((X++[(bo,.row usO 57 false)])++((b6,_)::(ba,.row [ua] 26 false)::(Ma++L)))) fun _ _ h=>⟨h.1,H.lj O h.2⟩) ?_;rintro _ V ⟨rfl,O⟩;refine Xd 12 Z<|aG Z (fun W=>?_) (fun W=>?_)
  ·refine aU (l:=[(0,[]),(1,[]),(2,[0]),(3,[]),(4,[]),(5,[])]) B B<|ah Z Z (Yw Z O.cF.pop.g0 Z) Z<|ah Z Z (YF Z (O.bJ N.gr) Z) Z<|fC Z Z (Yu Z Z Z) (fun _=>Z) (QC hG hg (TE<|cons_right hm W) O) ?_;rintro _ V ⟨K1,a',b',c',d',rfl,A,a1,O⟩;refine⟨bx (bC Z Z Z Z Z (Yw Z O.cF.pop.g0 Z) (hA.1.tx (K:=fun _ _=>False)).dV) aY,?_⟩;refine nN O Z Z (cM (e:=34) (m:=4) (z:=[.aw,.aw,.aw,.aw]) (cs:=[_,_,_,_]) B B B B<|bn Z Z Z Z cD) (fun _=>Z) (fun V bd O=>?_);replace O:=O.perm (RT ..);refine mN (R:=RG K1) (m:=4) (e:=34) (hA.1.jN fun _ _ h=>h.mono A) O (fQ (m:=4) Z ⟨a',b',c',d',Z,a1⟩) RG.leaf (by simp only[zc_,List.length_nil];omega) Z Z Z Z Z Z Z Z (fun _=>Z) (fun V a2 a3 hO25 O=>?_);refine⟨aY,?_⟩;refine fD O (.dz (.dz (.there .here))) Z Z (aL Z Z hO25.leaf.1 O.cF.cF.pop.g0 (m:=1) B Z (lb Z) (aj hO25.leaf.2 aC) (cells':=[_]) Z) Z (fun V O=>?_);refine⟨aY,?_⟩;refine Xh 3 Z<|oS ?_;exact⟨.inr Z,_,Z,K1,usO,a2,a3,A,hR.len,hR.leaf,fun _ _=>Z,(by rw[Bs oM,List.filter_cons_of_pos W];exact⟨hO25,.inl (by simp)⟩),(O.perm<|RV ..).pop⟩
  refine Xc 3 Z<|oS ?_;exact⟨.inr Z,_,Z,K,usO,ua,Ma,KP.le_refl _,hR.len,hR.leaf,fun _ _=>Z,(by rw[Bs oM,List.filter_cons_of_neg (by rw[W];decide),List.filter_nil,zk_];exact hA),(O.perm<|RW ..).pop⟩
 | succ f ih=>
  intro x K X F os usO ua Ma acc V hx ap N am hF hR hA hb O;refine ES hG Tryz.func40 Z (t:=(((((PT.leaf.put (some<|nI x) 0).put (some (.ptr bp 0)) 1).put (some (.ptr bmn 0)) 2).put (some (.ptr bg 0)) 3).put (some (.ptr ba 0)) 4).put (some (.ptr bc 0)) 5) (by rfl)<|fJ<|ia ?_;refine af Z<|kb O (cL Z Z) (fun V b6 O=>?_);refine ae<|dC<|fJ<|ia ?_;refine Xb 2 Z<|XS O 2 [0,4] Z Z<|S Z (Yw Z (O.bJ N.pl) Z) Z<|S Z (Yx N.hw Z Z Z (e:=57) Z) Z<|Xd 3 Z<|aG Z (fun Q=>absurd Q (by rw[dS,decide_eq_true_iff];intro h;have:=iJ_ h;omega)) (fun Q=>?_);refine aH<|dC ?_;obtain⟨w,hw⟩:=da (show x<wrs.length by omega);refine fJ<|ia ?_;refine XR O 2 [4] Z Z<|S Z (Yw Z (O.bJ N.pl) Z) Z<|S Z (Yw Z O.g0 Z) Z<|Yp (e:=57) (m:=1) N.hw hw Z Z Z Z (fun be a9 aq bb ar=>?_);obtain⟨bi,rfl,ab⟩:=ar;refine S Z (Yz O aq Z Z) Z<|kw (Yu Z Z Z) (Na hG ab.leaf O) ?_;rintro _ V ⟨K1,bf,A,a4,rfl,O⟩;refine ae<|dC ?_;obtain⟨K2,ac,ax,O⟩:=O.bZ (M:=[_]);have hb6:=ax _ (.head _);have hle12:=KP.le_trans A ac;refine KM<|Hb O Z B fun bm bl V O=>?_;refine(Tu hG (ab.mono hle12 fun _ _ h=>h) (a0 w<|gB_ hw) (ac _ _ a4) (I:=To m init threads wrs F os x bo ba bl bm _ X L usO acc) (fun u K' acc' l2 M L' V hle hI hO hl hp O=>?_) (fun K' hle=>⟨usO,ua,Ma,hR.mono<|iD (KP.le_trans hle12 hle) fun e he=>he,fun _ _=>Z,by show p7 4 34 _ (acc++[]) _ _;rw[zk_];exact hA.jN fun _ _ h=>h.mono (KP.le_trans hle12 hle),Z⟩) O).mono fun _ V ⟨K3,L3,C,hI3,O⟩=>?_
  ·obtain⟨usO1,u1,M1,hR1,aE,hA1,rfl⟩:=hI;have hP1:=N.mono (KP.le_trans hle12 hle);replace O:=O.perm (Jz ..);refine KQ O Z<|XR O 2 [3] Z Z<|S Z (Yw Z (O.bJ hP1.gr) Z) Z<|S Z (Yw Z (O.bJ<|hle _ _ hb6) Z) Z<|S Z (dP (e:=57) (m:=1) Z B Z Z (show x<wrs.length by omega)) Z<|fM O (.there (.dz .here)) Z (gW Z Z hO.leaf.1 O.pop.cF.g0 (m:=1) B Z (by rw[hR1.len];omega)<|aj hO.leaf.2 aC) Z (fun V O=>?_);rw[pJ (by rw[hR1.len];omega)] at O;refine ae ?_;refine⟨Z,K',_,O,fun V O=>?_⟩;refine aK (af Z (S Z (Yw Z (O.bJ hP1.pc) Z) Z (S Z (Yw Z (O.bJ<|hle _ _ hb6) Z) Z (S Z (aB (v:=nI (x+1)) Z Z<|cI<|a6 oM) Z ?_))));obtain⟨ez,a5,O⟩:=GW O;have hX1:KP.le (K.gw X) (K'.gw (ez::(X++(bm,.mark)::M))):=iD (KP.le_trans hle12 hle) fun e he=>mC_ _ (List.mem_append_left _ he)
   have hX2:KP.le (K'.gw X) (K'.gw (ez::(X++(bm,.mark)::M))):=iD (KP.le_refl _) fun e he=>mC_ _ (List.mem_append_left _ he)
   have hu:=hO.gB (K:=K'.gw (ez::(X++(bm,.mark)::M))) fun e he=>.inr (mC_ _<|List.mem_append_right _<|mC_ _ he)
   refine kw (Yu Z Z Z) (ih (x+1) K' (ez::(X++(bm,.mark)::M)) F (os++[l2]) (usO1.set x u) u1 M1 _ _ oM (by rw[lA_,zq_];omega) hP1 (am.mono hX1 fun _ _ h=>h.mono (KP.le_trans hle12 hle)) (hF.mono hX1 fun _ _ h=>h.mono hX1) ((hR1.mono hX2).push ap oM hu hO.leaf) hA1 (JM hp (by rw[EB hw] at hb;exact hb)) O) ?_;rintro _ V ⟨K3,usO3,u3,M3,C,ao,aa,E,hA3,O⟩;refine ae<|aD ?_;subst a5;refine⟨Z,K3,_,O,fun V O=>⟨Z,K3,_,C,⟨usO3,u3,M3,(hR1.mono<|iD C fun e he=>he).agree (x:=x) oM ao aa (fun y hy=>by rw[E y oM,List.getElem?_set_ne oM]),fun y hy=>by rw[E y oM,List.getElem?_set_ne oM];exact aE y hy,?_,Z⟩,O.perm (Jz ..).symm⟩⟩;rw[List.flatMap_append,List.filter_append,<-lQ_,List.flatMap_singleton];exact hA3
  obtain⟨usO3,u3,M3,hR3,E,hA3,rfl⟩:=hI3;refine⟨K3,_,O,fun V O=>⟨Z,?_⟩⟩;exact⟨.inl Z,O.get 0 Z,_,Z,K3,usO3,u3,M3,KP.le_trans hle12 C,hR3.len,hR3.leaf,E,by rw[EB hw];exact hA3,(O.nU _).pop⟩
theorem wg {l:List α} {x:Nat} {u:α} (h:l[x]? =some u):l.set x u=l:=by
 obtain⟨h1,rfl⟩:=gA.1 h;exact List.set_getElem_self h1
theorem H9 {q a b:bV} (h:q.bM.toNat-1<F.length):iT (iT F q a) q b=iT F q b:=by
 unfold iT;rw[List.getD_eq_getElem?_getD (l:=F.set _ _),List.getElem?_set_self h];show(F.set _ _).set _ (((F.getD _ []).set _ a).set _ b)=_;rw[List.set_set,List.set_set]
theorem Mc {q r a b:bV} (hq:q.bM.toNat-1<F.length) (u:r.bM.toNat-1<F.length) (hne:¬(q.bM.toNat-1=r.bM.toNat-1/\q.index.toNat=r.index.toNat)):iT (iT F q a) r b=iT (iT F r b) q a:=by
 unfold iT
 by_cases e:q.bM.toNat-1=r.bM.toNat-1
 ·have hi:q.index.toNat≠r.index.toNat:=fun h=>hne ⟨e,h⟩
  rw[e];rw[List.getD_eq_getElem?_getD (l:=F.set _ _),List.getElem?_set_self u,List.getD_eq_getElem?_getD (l:=F.set _ _),List.getElem?_set_self u];show(F.set _ _).set _ (((F.getD _ []).set _ a).set _ b)=(F.set _ _).set _ (((F.getD _ []).set _ b).set _ a);rw[List.set_set,List.set_set,List.set_comm _ _ hi]
 rw[List.getD_eq_getElem?_getD (l:=F.set _ _),List.getElem?_set_ne e,<-List.getD_eq_getElem?_getD,List.getD_eq_getElem?_getD (l:=F.set (r.bM.toNat-1) _),List.getElem?_set_ne (fun h=>e h.symm),<-List.getD_eq_getElem?_getD,List.set_comm _ _ e]
theorem Pr {q a:bV}:(iT F q a).length=F.length:=by unfold iT;rw[zg_]
theorem y4:∀{rs:List (bV×bW)} {fs:List bV} {F:List (List bV)},(eP F rs fs).length=F.length
 | [],_,_=>rfl
 | _::_,[],_=>rfl
 | r::rs,s::fs,F=>by
  show(eP (iT F r.1 s) rs fs).length=_;rw[y4,Pr]
theorem y3:∀{rs:List (bV×bW)} {fs:List bV} {F:List (List bV)} {q:bV},xZ F q->xZ (eP F rs fs) q
 | [],_,_,_,h=>h
 | _::_,[],_,_,h=>h
 | r::rs,s::fs,F,q,h=>y3 (rs:=rs) (fs:=fs) (oL h)
theorem MV {q r:bV} (hq:vq q) (A:vq r) (h:q≠r):¬(q.bM.toNat-1=r.bM.toNat-1/\q.index.toNat=r.index.toNat):=fun C=>by
 obtain⟨a,k,rfl⟩:=hq;obtain⟨b,l,rfl⟩:=A;obtain⟨h3,u⟩:=C;have h3:a+1-1=b+1-1:=h3;have u:k=l:=u;exact h (by rw[u,show a=b by omega])
theorem nv:∀{rs:List (bV×bW)} {fs:List bV} {F:List (List bV)} {q s:bV},vq q->xZ F q->(∀r∈rs,vq r.1/\xZ F r.1)->q∉rs.map (·.1)->iT (eP F rs fs) q s=eP (iT F q s) rs fs
 | [],_,_,_,_,_,_,_,_=>rfl
 | _::_,[],_,_,_,_,_,_,_=>rfl
 | r::rs,f::fs,F,q,s,hq,A,u,hn=>by
  obtain⟨g1,C⟩:=u r (mS_ ..);show iT (eP (iT F r.1 f) rs fs) q s=eP (iT (iT F q s) r.1 f) rs fs;rw[nv hq (oL A) (fun x hx=>⟨(u x<|mC_ _ hx).1,oL (u x<|mC_ _ hx).2⟩) fun h=>hn (mC_ _ h)];rw[Mc A.2.1 C.2.1<|MV hq g1 fun h=>hn (mQ_.2 (.inl h))]
theorem w9:∀{rs:List (bV×bW)} {fs:List bV} {F:List (List bV)} {k:Nat} {r:bV×bW} {s:bV},fs.length=rs.length->(rs.map (·.1)).Nodup->(∀r∈rs,vq r.1/\xZ F r.1)->rs[k]? =some r->iT (eP F rs fs) r.1 s=eP F rs (fs.set k s)
 | [],_,_,_,_,_,_,_,_,h=>by cases h
 | _::_,[],_,_,_,_,h,_,_,_=>by simp at h
 | r0::rs,f::fs,F,0,r,s,hl,hn,u,h=>by
  obtain rfl:r0=r:=by simpa using h
  obtain⟨A,C⟩:=List.nodup_cons.1 hn;obtain⟨g1,E⟩:=u r0 (mS_ ..);show iT (eP (iT F r0.1 f) rs fs) r0.1 s=eP (iT F r0.1 s) rs fs;rw[nv g1 (oL E) (fun x hx=>⟨(u x<|mC_ _ hx).1,oL (u x<|mC_ _ hx).2⟩) A,H9 E.2.1]
 | r0::rs,f::fs,F,k+1,r,s,hl,hn,u,h=>by
  obtain⟨A,C⟩:=List.nodup_cons.1 hn;show iT (eP (iT F r0.1 f) rs fs) r.1 s=eP (iT F r0.1 f) rs (fs.set k s);exact w9 (by simpa using hl) C (fun x hx=>⟨(u x<|mC_ _ hx).1,oL (u x<|mC_ _ hx).2⟩) (by simpa using h)
theorem CK {threads:List (List bW)}:∀{rs:List (bV×bW)} {F:List (List bV)},(∀r∈rs,xZ F r.1/\Rc F r.1=some ⟨0,0⟩)->eP F rs (List.replicate rs.length ⟨0,0⟩)=F
 | [],_,_=>rfl
 | r::rs,F,h=>by
  obtain⟨h1,u⟩:=h r (mS_ ..)
  have e:iT F r.1 ⟨0,0⟩=F:=by
   unfold iT;obtain⟨x,h3⟩:=da h1.2.1;unfold Rc at u;refine(congrArg (F.set _)<|wg u).trans (wg ?_);rw[List.getD_eq_getElem?_getD,h3];rfl
  show eP (iT F r.1 ⟨0,0⟩) rs (List.replicate rs.length ⟨0,0⟩)=F;rw[e];exact CK (threads:=threads) fun x hx=>h x (mC_ _ hx)
theorem MH {threads:List (List bW)} {q:bV} (h:xZ (iM threads) q):Rc (iM threads) q=some ⟨0,0⟩:=by
 obtain⟨_,h1,u⟩:=h;unfold Rc;have h3:(iM threads)[q.bM.toNat-1]? =(threads[q.bM.toNat-1]?).map fun r=>r.map fun _=>(⟨0,0⟩:bV):=by unfold iM;rw[gM_]
 rw[List.getD_eq_getElem?_getD,h3] at u⊢;cases A:threads[q.bM.toNat-1]? with
 | none=>rw[A] at u;cases u
 | some row=>
  rw[A] at u;have u:q.index.toNat<(row.map fun _=>(⟨0,0⟩:bV)).length:=u;rw[lM_] at u;show(row.map fun _=>(⟨0,0⟩:bV))[q.index.toNat]? =_;rw[gM_,gC u];rfl
theorem Gs {threads:List (List bW)}:eP (iM threads) (pZ threads) (List.replicate (pZ threads).length ⟨0,0⟩)=iM threads:=
 CK (threads:=threads) fun r u=>⟨(xU r u).2,MH (xU r u).2⟩
def pP (init:List Int) (threads:List (List bW)) (k:Nat) (pre:List bV):List XG:=
 (jq ((eZ init threads).drop k)).flatMap fun r=>qi (gR init threads) init threads (eP (iM threads) (pZ threads) (pre++r)) 0 []
theorem Kq {init:List Int} {threads:List (List bW)} {k:Nat} {pre:List bV} (h:(pZ threads).length<=k):pP init threads k pre=qi (gR init threads) init threads (eP (iM threads) (pZ threads) pre) 0 []:=by
 unfold pP;rw[List.drop_of_length_le (by unfold eZ;rw[lM_];exact h)];show(qi _ _ _ (eP _ _ (pre++[])) 0 [])++[]=_;rw[zk_,zk_]
theorem ED {init:List Int} {threads:List (List bW)} {k:Nat} {pre:List bV} {S_:List bV} (h:(eZ init threads)[k]? =some S_):pP init threads k pre=S_.flatMap fun s=>pP init threads (k+1) (pre++[s]):=by
 unfold pP;obtain⟨hx,rfl⟩:=gA.1 h;rw[zj_ hx];show((eZ init threads)[k].flatMap fun x=>(jq ((eZ init threads).drop (k+1))).map (x::·)).flatMap _=_
 rw[List.flatMap_assoc];refine congrArg (fun f=>List.flatMap f (eZ init threads)[k])<|funext fun s=>?_;rw[List.flatMap_map];refine congrArg (fun f=>List.flatMap f _)<|funext fun r=>?_;rw[lQ_];rfl
theorem Bt {init:List Int} {threads:List (List bW)}:pP init threads 0 []=jk fS init threads:=rfl
theorem take_set {l:List α} {k:Nat} {s:α} (h:k<l.length):(l.set k s).take (k+1)=l.take k++[s]:=by
 rw[zb_,List.getElem?_set_self h,List.take_set_of_le<|nR_ _];rfl
variable {usF:List Y} {bs:Nat} {X0:Own}
theorem Ch (A X M R:List α) (a b:α):(A++a::b::(M++(X++R))).Perm ((A++X)++a::b::(M++R)):=by
 classical
 rw[List.perm_iff_count];intro y;simp only[List.count_append,List.count_cons];omega
structure tN (K:KP) (m:Int) (init:List Int) (threads:List (List bW)) (vi vt p2 p3 p4 vF:Y) (bp bmn bg bo ba bc bs:Nat) (usF:List Y) (NF:Own) (X0:Own):Prop where
 pk:yb K m init threads (gR init threads) vi vt p2 p3 p4 vF bp bmn bg bo ba bc
 sc:K bs (.row [.func 44 [] [.ptr bp 0,.ptr bc 0,.ptr bg 0,.ptr bs 0]] 92 false)
 hr:bG K 2 fj ((pZ threads).map (·.1)) p2
 hs:bG K 1 (RL K 2 fj) (eZ init threads) p3
 hN:∀e∈NF,K e.1 e.2
 ht:bG (K.gw X0) 1 (RL K 5 iN) threads vt
theorem tN.mono {K K':KP} {m:Int} {init:List Int} {threads:List (List bW)} {vi vt u A C vF:Y} {bp bmn bg bo ba bc bs:Nat} {usF:List Y} {NF X0:Own} (h:tN K m init threads vi vt u A C vF bp bmn bg bo ba bc bs usF NF X0) (hk:KP.le K K'):tN K' m init threads vi vt u A C vF bp bmn bg bo ba bc bs usF NF X0:=
 ⟨h.pk.mono hk,hk _ _ h.sc,h.hr.mono hk fun _ _ h=>h,h.hs.mono hk fun _ _ h=>h.mono hk,fun e he=>hk _ _ (h.hN e he),h.ht.mono (iD hk fun _ h=>h) fun _ _ h=>h.mono hk⟩
theorem Nb (hG:Plain G) {m:Int} (hm:m=1∨m=2) {init:List Int} {threads:List (List bW)} {NF:Own} (hn:(gR init threads).length<=6) (b3:∀w∈gR init threads,w.length<=1000) (b4:∀w∈eZ init threads,w.length<=1000) (cv:(pZ threads).length<=1000) (a5:cO 1 57 SP usF vF NF) (cw:threads.length<=1000):
  ∀(f k:Nat) (K:KP) (hs:List bV) (usO:List Y) (ua:Y) (Ma:Own) (acc:List XG) (MF:Own) (V:D),k+f=(pZ threads).length->hs.length=(pZ threads).length->tN K m init threads vi vt p2 p3 p4 vF bp bmn bg bo ba bc bs usF NF X0->fq 2 89 fj (eP (iM threads) (pZ threads) hs) usF MF->usO.length=(gR init threads).length->(∀v∈usO,cE v=some [v]/\eX v=true)->p7 4 34 (RG K) acc ua Ma->acc.length+(pP init threads k<|hs.take k).length<=1000000->H V K (MF++(bo,.row usO 57 false)::(ba,.row [ua] 26 false)::(Ma++(X0++L)))->
   EC G 44 [nI k,.ptr bp 0,.ptr bc 0,.ptr bg 0,.ptr bs 0] V fun _ V'=>∃K' aE usO' ua' Ma' MF',KP.le K K'/\aE.length=(pZ threads).length/\aE.take k=hs.take k/\fq 2 89 fj (eP (iM threads) (pZ threads) aE) usF MF'/\usO'.length=(gR init threads).length/\(∀v∈usO',cE v=some [v]/\eX v=true)/\p7 4 34 (RG K') (acc++(pP init threads k<|hs.take k).filter (iq m)) ua' Ma'/\H V' K' (MF'++(bo,.row usO' 57 false)::(ba,.row [ua'] 26 false)::(Ma'++(X0++L))):=by
 intro f;induction f with
 | zero=>
  intro k K hs usO ua Ma acc MF V hk a0 Q hF a1 a2 hA hb O;refine XD hG Tryz.func44 Z<|Wt O 5 [2] Z Z<|S Z (Yw Z (O.bJ Q.pk.pl) Z) Z<|S Z (Yx Q.hr Z Z Z (e:=89) Z) Z<|Xd 3 Z<|aG Z (fun R=>?_) (fun R=>?_)
  ·refine Xb 2 Z<|S Z (Yw Z (O.bJ Q.pk.pc) Z) Z ?_;have a9:(pZ threads).length<=k:=by omega
   have I:hs.take k=hs:=tL_ oM;rw[Kq a9,I] at hb⊢;have b5:bG (K.gw (MF++X0)) 1 (RL (K.gw (MF++X0)) 2 fj) (eP (iM threads) (pZ threads) hs) vF:=HJ a5 hF (fun e he=>.inl (Q.hN e he)) (fun e he=>.inr (List.mem_append_left _ he));refine kw (Yu Z Z Z) (QE hG hm hn b3 (gR init threads).length 0 K (MF++X0) (eP (iM threads) (pZ threads) hs) [] usO ua Ma acc _ oM Z Q.pk (Q.ht.mono (iD (KP.le_refl _) fun e he=>List.mem_append_right _ he) fun _ _ h=>h) b5 ⟨a1,a2,fun y l h=>by cases h⟩ hA hb<|O.perm<|Ch ..) ?_;rintro cx V ⟨K1,usO1,u1,M1,E,b6,b7,_,hA1,O⟩;refine Wq 4 Z ?_;exact⟨.inr Z,_,Z,K1,hs,usO1,u1,M1,MF,E,a0,I,hF,b6,b7,hA1,O.perm (Ch ..).symm⟩
  exact absurd R (by rw[lM_,show k=(pZ threads).length by omega,dS];simp)
 | succ f ih=>
  intro k K hs usO ua Ma acc MF V hk a0 Q hF a1 a2 hA hb O;obtain⟨r,a3⟩:=da (show k<(pZ threads).length by omega);have b8:((pZ threads).map (·.1))[k]? =some r.1:=by rw[gM_,a3];rfl
  obtain⟨S_,hS⟩:=da (show k<(eZ init threads).length by unfold eZ;rw[lM_];omega);have hSl:=b4 S_ (gB_ hS);obtain⟨⟨ra,rk,W⟩,b9⟩:=xU r (gB_ a3);refine XD hG Tryz.func44 Z<|Wt O 5 [2] Z Z<|S Z (Yw Z (O.bJ Q.pk.pl) Z) Z<|S Z (Yx Q.hr Z Z Z (e:=89) Z) Z<|Xd 3 Z<|aG Z (fun R=>?_) (fun R=>?_)
  ·exact absurd R (by rw[lM_,dS,decide_eq_true_iff];intro h;have:=iJ_ h;omega)
  refine Wk 4 Z<|S Z (Yv 2 Z) Z<|S Z (Yw Z (O.bJ Q.pk.pl) Z) Z<|vQ 1 Z<|Yp (e:=89) (m:=2) Q.hr b8 Z Z Z Z (fun c0 ch bd ci be=>?_);obtain rfl:=be;refine S Z (YA O bd Z Z) Z<|kb O (Yy (cs:=[iZ,iZ])) (fun V b1 O=>?_);refine ks O (YB Z Z Z O.g0 Z) (fun V O=>?_);refine Wo 4 Z ?_;replace O:=O.pull (.there<|bu.here (X:=MF));replace O:=O.pull (.dz<|bu.here (X:=[_]));rw[za_] at O;obtain⟨K1,E,ac,O⟩:=O.bZ (M:=[_]);have hb6:=ac _ (.head _);clear ac;have hP1:=Q.mono E;refine S Z (Yv 3 Z) Z<|S Z (Yw Z (O.bJ hP1.pk.pl) Z) Z<|vQ 1 Z<|Yp (e:=57) (m:=1) hP1.hs hS Z Z Z Z (fun c1 ck bf cl bi=>?_);have hr22':=bi;obtain⟨c2,rfl,am⟩:=hr22';refine S Z (Yz O bf Z Z) Z (S Z (Yx am Z Z Z (e:=89) Z) Z (Wm 4 Z (bq (rg 25 19) (fun j t V=>∃(i:Nat) (K2:KP) (u:List bV) (usO1:List Y) (u1:Y) (M1 MF1:Own),j+i=S_.length/\KP.le K1 K2/\u.length=(pZ threads).length/\u.take k=hs.take k/\fq 2 89 fj (eP (iM threads) (pZ threads) u) usF MF1/\usO1.length=(gR init threads).length/\(∀v∈usO1,cE v=some [v]/\eX v=true)/\p7 4 34 (RG K2) (acc++((S_.take i).flatMap (fun s=>pP init threads (k+1) (hs.take k++[s]))).filter (iq m)) u1 M1/\t.get 25=some (nI i)/\H V K2 (MF1++(bo,.row usO1 57 false)::(ba,.row [u1] 26 false)::(M1++(X0++L)))) (S_.length) ⟨0,K1,hs,usO,ua,Ma,MF,Z,KP.le_refl _,a0,Z,hF,a1,a2,(by show p7 4 34 _ (acc++[]) _ _;rw[zk_];exact hA.jN fun _ _ h=>h.mono E),Z,O⟩ ?_)));clear O;intro j4 t V ar hI;obtain⟨i,K2,u,usO1,u1,M1,MF1,c3,hK2,aa,ao,hF1,ap,aq,hA1,bl,O⟩:=hI;obtain⟨oo,rfl⟩:=ar.q1 bl Z;have hP2:=hP1.mono hK2;have hb6b:=hK2 _ _ hb6;have hkS:=am.mono hK2 fun _ _ h=>h
  refine Xa 6 Z<|aG Z (fun N=>?_) (fun N=>?_)
  ·refine Wj 3 Z<|aK<|ai<|aU (l:=zp [0,1,2,3,4,5,6,7,8,9,10,11,12]) B B ?_;obtain⟨s,F⟩:=dh N;obtain⟨F,_⟩:=F;obtain⟨_,ax,C⟩:=y3 (rs:=pZ threads) (fs:=u) b9;have e1:r.1.bM.toNat-1=ra:=by rw[W];rfl
   have e2:r.1.index.toNat=rk:=by rw[W];rfl
   rw[e1] at ax C;rw[e2] at C;obtain⟨row,ab⟩:=da ax;rw[List.getD_eq_getElem?_getD,ab] at C;replace C:rk<row.length:=C;obtain⟨ur,Mr,A,B_,bm,hOr,ca,bt⟩:=hF1.at ab;subst ca;obtain⟨bb,cc,cells,ee,hu,hM,h3,h4,h5,h6⟩:=hOr.cell oM;subst hM;replace O:=O.pull (X:=[(bb,.row cells ee false)]) .Jk;replace O:H V K2 ((bb,.row cells ee false)::((A++B_)++_)):=O;refine ah Z Z (Yv 2 Z) Z (ah Z Z (Yw Z (O.bJ hP2.pk.gr) Z) Z (ah Z Z (Yv 0 Z) Z (ah Z Z (Yw Z (O.bJ hb6b) Z) Z (ah Z Z (aB (v:=nI ra) Z Z (cI (by rw[W];exact gy (by have:(eP (iM threads) (pZ threads) u).length=threads.length:=(by rw[y4];unfold iM;rw[lM_]);omega)))) Z<|Yq (e:=57) (m:=1) (a5.gB (K:=K2) hP2.hN) bm Z Z Z Z (by rw[W];rfl) (fun c4 cn bv co bw=>?_)))));obtain⟨rfl,hr32l,hr32c⟩:=bw;refine ah Z Z (Yz O bv Z Z) Z<|ah Z Z (Yv 1 Z) Z<|ah Z Z (Yw Z (O.bJ hb6b) Z) Z<|Yq (e:=89) (m:=2) hkS F Z Z Z Z Z (fun c5 cp bE cr bF=>?_);obtain rfl:=bF;refine ah Z Z (YA O bE Z Z) Z<|ah Z Z (dP (e:=89) (m:=2) Z B (congrArg some hu) (by rw[W];rfl) C) Z (fD O .here Z Z (gW Z Z Z O.g0 (m:=2) B Z (show 0+rk*2+2<=cells.length by rw[h3];omega) Z) Z (fun V O=>?_));refine⟨aY,?_⟩;rw[nA_] at O;have hOr2:=Jt (b:=bb) h3 h4 h5 h6 (i:=rk) C (y:=s) (vs:=[.int .i64 s.bM,.int .i64 s.index]) Z Z;rw[<-hu] at hOr2;have hF2:=bt _ _ _ hOr2;rw[wg bm] at hF2;have cb:(eP (iM threads) (pZ threads) u).set ra (row.set rk s)=eP (iM threads) (pZ threads) (u.set k s):=by rw[<-w9 aa LO (fun x hx=>xU x hx) a3];unfold iT;rw[e1,e2,List.getD_eq_getElem?_getD,ab];rfl
   rw[cb] at hF2;replace O:=O.push (X:=[_]) (L:=(A++([_]++B_))++_) .Jk;refine Xg 2 Z (af Z (S Z (Yw Z (O.bJ hP2.sc) Z) Z (vQ 1 Z (S Z (aB (v:=nI (k+1)) Z Z<|cI<|a6 oM) Z ?_))));have I:(u.set k s).take (k+1)=hs.take k++[s]:=by rw[take_set oM,ao]
   have a4:(acc++((S_.take i).flatMap (fun s=>pP init threads (k+1) (hs.take k++[s]))).filter (iq m)).length+(pP init threads (k+1) ((u.set k s).take (k+1))).length<=1000000:=by rw[I];exact JM (f:=(fun s=>pP init threads (k+1) (hs.take k++[s]))) (T:=S_) ⟨S_.drop (i+1),by rw[<-eW F,List.take_append_drop]⟩ (by rw[ED hS] at hb;exact hb)
   refine kw (Yu Z Z Z) (ih (k+1) K2 (u.set k s) usO1 u1 M1 _ _ _ oM (by rw[zg_];exact aa) hP2 hF2 ap aq hA1 a4 O) ?_;rintro c7 V ⟨K3,ce,usO3,u3,M3,MF3,bR,bS,bY,hF3,b0,b2,hA3,O⟩;refine ae<|aD<|XK 4 Z ?_;refine aJ ⟨j4-1,(by have:=aS N;omega),oF,i+1,K3,ce,usO3,u3,M3,MF3,(by have:=aS N;omega),KP.le_trans hK2 bR,bS,(by have h1:=congrArg (List.take k) bY;rw[List.take_take,Nat.min_eq_left oM,I,List.take_append_of_le_length (by rw[lT_];omega),List.take_take,Nat.min_self] at h1;exact h1),hF3,b0,b2,(by rw[eW F,List.flatMap_append,List.filter_append,<-lQ_,List.flatMap_singleton,<-I];exact hA3),cI<|a6 (by have:=aS N;omega),O⟩
  refine Wl 3 Z<|aQ ?_;exact nk Z ⟨K2,u,usO1,u1,M1,MF1,KP.le_trans E hK2,aa,ao,hF1,ap,aq,(by rw[ED hS,<-tL_ (bI N)];exact hA1),O⟩
def fB:List Nat->Nat
 | []=>1
 | b::l=>b*fB l
theorem vY:∀{l m:List Nat},fB (l++m)=fB l*fB m
 | [],m=>by show fB m=1*fB m;rw[Nat.one_mul]
 | b::l,m=>by show b*fB (l++m)=b*fB l*fB m;rw[vY,Nat.mul_assoc]
theorem vZ:∀{l:List Nat},(∀b∈l,1<=b)->1<=fB l
 | [],_=>nR_ _
 | b::l,h=>Nat.mul_pos (h b<|mS_ ..) (vZ fun c hc=>h c (mC_ _ hc))
theorem oH {α:Type}:∀{L:List (List α)},(jq L).length=fB (L.map List.length)
 | []=>rfl
 | o::L=>by
  show(o.flatMap fun x=>(jq L).map (x::·)).length=o.length*fB (L.map List.length)
  rw[List.length_flatMap];simp only[lM_];rw[oH (L:=L),List.map_const',List.sum_replicate_nat]
theorem r5:∀{l:List Nat} {n:Nat},n<=16385->fN l n≠0->fN l n=min (n*fB l) 16385
 | [],n,h,_=>by show n=min (n*1) 16385;omega
 | b::l,n,h,hne=>by
  have h1:fN l (min (n*b) 16385)≠0:=hne;show fN l (min (n*b) 16385)=min (n*(b*fB l)) 16385;rw[r5 (Nat.min_le_right ..) h1,<-Nat.mul_assoc];have h2:=r5 (l:=l) (n:=min (n*b) 16385) (Nat.min_le_right ..) h1;have h3:fB l≠0:=fun e=>by rw[e,Nat.mul_zero] at h2;rw[h2] at h1;exact h1 Z
  by_cases hc:n*b<=16385
  ·rw[Nat.min_eq_left hc]
  rw[Nat.min_eq_right (show 16385<=n*b by omega)];have h4:16385*1<=16385*fB l:=Nat.mul_le_mul_left _ oM;have h5:16385*fB l<=n*b*fB l:=nM_ _ oM;omega
theorem FP {α:Type} {t:List α->List (List α)×List α} {c n:Nat} (h:∀x,(t x).1.length=c):∀(k i:Nat) (x:List α),(pF t n k i x).1.length=k*c
 | 0,_,_=>by rw[pF,Nat.zero_mul];rfl
 | k+1,i,x=>by
  rw[pF];show((t x).1++(pF t n k (i+1) _).1).length=_;rw[lA_,h,FP h k,Nat.succ_mul,Nat.add_comm]
theorem wi {α:Type}:∀(k:Nat) (x:List α),(eN k x).1.length=fB (fO (k+1))
 | 0,x=>by rw[eN];rfl
 | k+1,x=>by
  rw[eN,FP (fun x=>wi k x),yV (k+1),vY];show(k+2)*fB (fO (k+1))=fB (fO (k+1))*((k+1+1)*1);rw[Nat.mul_one,Nat.mul_comm]
theorem Lg (l:List α):(fS l).length=fB (fO l.length):=by
 unfold fS;cases hl:l.length with
 | zero=>rw[wi];rfl
 | succ k=>rw[wi];rfl
theorem tg:∀{wrs:List (List bV)},fB (wrs.flatMap fun w=>fO w.length)=fB ((wrs.map fS).map List.length)
 | []=>rfl
 | w::wrs=>by
  show fB (fO w.length++wrs.flatMap fun w=>fO w.length)=(fS w).length*fB ((wrs.map fS).map List.length);rw[vY,tg,Lg]
theorem Ko {init:List Int} {threads:List (List bW)} (h:nZ (eZ init threads) (gR init threads)<=16384) (h0:nZ (eZ init threads) (gR init threads)≠0):(jk fS init threads).length<=16384:=by
 have e:(jk fS init threads).length=fB ((eZ init threads).map List.length)*fB ((gR init threads).flatMap fun w=>fO w.length):=by
  unfold jk;rw[List.length_flatMap];simp only[lM_];rw[List.map_const',List.sum_replicate_nat,oH,oH,tg]
 rw[e];unfold nZ at h h0;have h1:fN ((eZ init threads).map List.length) 1≠0:=fun e=>by rw[e,wa] at h0;exact h0 Z
 have h2:=r5 (by decide) h1;have h3:fN ((eZ init threads).map List.length) 1<=16385:=kP (by decide);have h4:=r5 h3 h0;have h5:=vZ (vL (wrs:=gR init threads));generalize fB ((gR init threads).flatMap fun w=>fO w.length)=P2 at*;generalize fB ((eZ init threads).map List.length)=P1 at*;rw[Nat.one_mul] at h2
 by_cases hc:P1<=16385
 ·rw[Nat.min_eq_left hc] at h2;rw[h2] at h4 h;omega
 rw[Nat.min_eq_right oM] at h2;rw[h2] at h4 h;have h6:16385*1<=16385*P2:=Nat.mul_le_mul_left _ h5;omega
theorem yt {init:List Int} {threads:List (List bW)} (h:nZ (eZ init threads) (gR init threads)=0):jk fS init threads= []:=by
 unfold jk;rw[Mq h];rfl
theorem zeroCells:∀n:Nat,ew [Y.int .i64 0,iZ] n=qj (List.replicate n ⟨0,0⟩)
 | 0=>rfl
 | n+1=>by
  show gV [_,_] (ew _ n)=_;rw[dU,zeroCells n,List.replicate_succ,nh];rfl
theorem Ql {b n:Nat} (hn:n<=1048576):cO 2 89 fj (List.replicate n ⟨0,0⟩) (.slice b 0 n (.known n)) [(b,.row (ew [Y.int .i64 0,iZ] n) 89 false)]:=by
 rw[zeroCells];refine .inr ⟨b,.known n,_,89,by rw[List.length_replicate],Z,sx _,fun i x hx=>Ky hx,.inl (by rw[List.length_replicate]),by rw[List.length_replicate];exact hn⟩
theorem PX {threads:List (List bW)} {loc:Int} (h4:threads.length<=4) (u:∀r∈threads,r.length<=14):(PW threads loc).length<=56:=by
 have h1:=um (l:=threads) (t:=0) u;unfold PW;exact Nat.le_trans (List.length_filter_le ..) oM
theorem ID {init:List Int} {threads:List (List bW)} (A:threads.length<=4) (u:∀r∈threads,r.length<=14):∀w∈gR init threads,w.length<=1000:=fun w hw=>by
 obtain⟨x,_,rfl⟩:=zn_.1 hw;rw[lM_];have:=PX (loc:=.ofNat x) A u;omega
theorem DL {init:List Int} {threads:List (List bW)} (A:threads.length<=4) (u:∀r∈threads,r.length<=14):∀w∈eZ init threads,w.length<=1000:=fun w hw=>by
 obtain⟨r,_,rfl⟩:=zn_.1 hw;unfold Ii;rw[lA_,lM_];have h1:=PX (loc:=r.2.loc) A u;have h2:=List.length_filter_le (fun w:bV×bW=>bif dv w.1 r.1 then false else bD w.2.write r.2.read) (PW threads r.2.loc);have h3:(bif bD (init.getD r.2.loc.toNat 0) r.2.read then [(⟨0,r.2.loc⟩:bV)] else []).length<=1:=by cases bD (init.getD r.2.loc.toNat 0) r.2.read<;>simp
 omega
theorem Uo {threads:List (List bW)} (A:threads.length<=4) (u:∀r∈threads,r.length<=14):(pZ threads).length<=1000:=by
 rw[<-JF (nR_ threads.length)];have:=JG (t:=threads.length) (k:=0) A u;omega
theorem U8 (hG:Plain G) {m:Int} (hm:m=1∨m=2) {init:List Int} {threads:List (List bW)} (hi:bG K 1 dB init vi) (T:bG (K.gw X0) 1 (RL K 5 iN) threads vt) (hE:Dc init threads=0) (hr:bG K 2 fj ((pZ threads).map (·.1)) p2) (hs:bG K 1 (RL K 2 fj) (eZ init threads) p3) (hw:bG K 1 (RL K 2 fj) (gR init threads) p4) (hT:nZ (eZ init threads) (gR init threads)<=16384) (O:H V K (X0++L)):
  EC G 19 [.agg [vi,vt,p2,p3,p4],.int .i64 m] V fun v V'=>∃K' M,KP.le K K'/\p7 4 34 (RG K') ((jk fS init threads).filter<|iq m) v M/\H V' K' (M++(X0++L)):=by
 obtain⟨h6,h4,I,aq⟩:=xK hE;have hwl:=ID (init:=init) h4 I;have hsl:=DL (init:=init) h4 I;have hrl:=Uo h4 I;have wlen:(gR init threads).length=init.length:=by rw[Gm];exact pO
 refine XD hG Tryz.func19 Z<|Xb 2 Z<|kb O (cL Z Z) (fun V b1 O=>?_);refine kb O (cL Z Z) (fun V b2 O=>?_);refine VE 6 Z<|S Z (YG Z O.g1 Z) Z<|kx (Yu Z Z Z) (IN hG hs hw hi.leaf.2 T.leaf.2 hr.leaf.2 hsl hwl O) (fun V O=>?_);refine Xd 3 Z<|aG Z (fun Q=>?_) (fun Q=>?_)
 ·refine Xc 7 Z ?_;exact az Z Z ⟨K,[],KP.le_refl _,(by rw[yt<|iJ_<|UX Q];exact⟨cO.nil,.inr Z⟩),O.pop.pop⟩
 refine Wk 4 Z<|kb O (Yy (cs:=[.aw])) (fun V b3 O=>?_);refine Wn 3 Z<|aU (l:=zp [0,1,2,3,4,5,6,7,8,9,10]) B B<|XT O 6 [0,2,1,2,0,2] Z Z<|ah Z Z (Yx hi Z Z Z (e:=2) Z) Z<|nN O Z Z (gT (e:=57) (w:=24) (z:=[.aw]) B B B B Z Z oM oM) (fun _=>Z) (fun V b4 O=>?_);rw[jh] at O;refine ah Z Z (cY (places:=[(0,1),(1,1),(2,1),(3,1)]) (zero:=[.aw,.aw,.aw,.aw]) (cs:=[_,_,_,_]) B B B (bn Z Z hi.leaf.1 Z<|bn Z Z T.leaf.1 Z<|bn Z Z Z Z cD) B) Z<|w6 O Z Z (Yy (cs:=[.aw,.aw,.aw,.aw])) (fun _=>Z) (fun V b5 O=>?_);refine pB O Z Z (UM Z Z Z O.g0 (m:=4) Z (aj hi.leaf.2<|aj T.leaf.2 Z) (cells':=[_,_,_,_]) Z) Z (fun V O=>?_);refine⟨aY,?_⟩;refine Xg 2 Z (Wt O 5 [1,4] Z Z (S Z (Yx T Z Z Z (e:=41) Z) Z (Wm 4 Z (bq ([8]++rg 26 13) (fun j t V=>∃(i:Nat) (us:List Y) (u:Y) (MN MI:Own),j+i=threads.length/\cO 1 57 SP us u MN/\fq 2 89 fj ((threads.take i).map fun r=>r.map fun _=>(⟨0,0⟩:bV)) us MI/\t.get 26=some (nI i)/\H V K (MN++(MI++((b5,.row [vi,vt,u,.slice b4 0 init.length (.known init.length)] 34 false)::(b4,.row (List.replicate init.length .aw) 57 false)::(b3,.row [.aw] 26 false)::(b2,.row [.int .i64 m] 3 false)::(b1,.row [vi,vt,p2,p3,p4] 59 false)::(X0++L))))) (threads.length) ⟨0,[],.aw,[],[],Z,cO.nil,.nil,Z,O⟩ ?_))));clear O;intro j6 t V ar W;obtain⟨i,us,u,MN,MI,a3,hN,W,aa,O⟩:=W;obtain⟨oo,rfl⟩:=ar.q1 aa Z;refine Xa 6 Z<|aG Z (fun N=>?_) (fun N=>?_)
 ·refine UY 6 Z ?_;obtain⟨E,F,a0⟩:=dh N;refine Yp (e:=41) (m:=1) T F Z Z Z Z (fun a4 a1 ab a2 ac=>?_);have hr28':=ac;obtain⟨a5,rfl,am⟩:=hr28';refine S Z (Yz (O.Po (X:=X0) fun e he=>by simp[he]) ab Z Z) Z (Xd 3 Z (aU (l:=zp [0,1,2,3,4,5,6,7,8]) B B (ah Z Z (Yv 2 Z) Z (ah Z Z (Yw Z O.cF.cF.g0 Z) Z (wQ 1 Z (ah Z Z (Yx am Z Z Z (e:=40) Z) Z (nN O Z Z (gT (e:=89) (w:=16) (z:=[iZ,iZ]) B B B B Z Z (by have:=I _ (gB_ F);omega) (by have:=I _ (gB_ F);omega)) (fun _=>Z) (fun V b6 O=>?_))))))));obtain⟨MZ,ax,O⟩:∃MZ:Own,MZ= [(b6,.row (ew [iZ,iZ] E.length) 89 false)]/\H V K (MZ++_):=⟨_,Z,O⟩;have hZ:cO 2 89 fj (List.replicate E.length ⟨0,0⟩) (.slice b6 0 E.length (.known E.length)) MZ:=by rw[ax];exact Ql (by have:=I _ (gB_ F);omega)
  refine nN O Z Z (cM (e:=57) (m:=1) (z:=[.aw]) (cs:=[_]) B B B B<|bn Z Z hZ.leaf.1 Z cD) (fun _=>Z) (fun V b7 O=>?_);replace O:=O.pull (.there (.dz<|bu.here (X:=MN)));replace O:=O.pull (.dz<|bu.here (X:=[_]));rw[za_] at O;refine mN (R:=SP) (m:=1) (e:=57) hN O (fQ (m:=1) Z (show SP (.slice b6 0 E.length (.known E.length)) _ from⟨Z,Z,Z⟩)) SP.leaf (by have h1:=W.length;rw[lM_,lT_] at h1;simp only[zc_,List.length_nil];omega) Z Z Z Z Z Z Z Z (fun _=>Z) (fun V a9 ao hO36 O=>?_);refine⟨aY,?_⟩;refine ah Z Z (Yv 2 Z) Z<|fD O (.dz (.dz (.dz .here))) Z Z (aL Z Z hO36.leaf.1 O.cF.cF.cF.g0 (m:=1) B Z (lb Z) (aj hO36.leaf.2 aC) (cells':=[_,_,_,_]) Z) Z (fun V O=>?_);refine⟨aY,?_⟩;refine a8<|aD<|XK 4 Z ?_;replace O:=O.pull (.dz (.dz (.dz (.there (.there (.there (.there<|bu.here (X:=[_]))))))));rw[za_] at O;replace O:=O.pull (.there (.dz (.dz (.dz (.there (.there (.there<|bu.here (X:=[_]))))))));rw[za_] at O;replace O:=O.pull (.there (.there (.dz (.dz (.dz (.there (.there<|bu.here (X:=[_]))))))));rw[za_] at O;replace O:=O.pull (.there (.there (.there (.dz (.dz (.dz (.there<|bu.here (X:=[_]))))))));rw[za_] at O;replace O:=O.pull (.there (.there (.there (.there (.dz (.dz (.dz<|bu.here (X:=[_]))))))));rw[za_] at O;replace O:=O.pull (.there (.there (.there (.there (.there (.dz (.dz<|bu.here (X:=MI))))))));replace O:=O.pull (.dz (.there (.there (.there (.there (.there (.dz<|bu.here (X:=MZ))))))));replace O:=O.pull (.dz (.dz (.there (.there (.there (.there (.there<|bu.here (X:=ao))))))));rw[<-lQ_ MZ MI] at O;refine aJ ⟨j6-1,(by have:=aS N;omega),oF,i+1,us++[.slice b6 0 E.length (.known E.length)],_,ao,MZ++MI,(by have:=aS N;omega),hO36,(by rw[eW F,List.map_append];show fq _ _ _ (_++[E.map fun _=>_]) _ _;rw[List.map_const'];exact .snoc W hZ),cI<|a6 (by have:=aS N;omega),O⟩
 refine Wl 3 Z<|aQ<|Xb 2 Z<|kb O (Yy (cs:=[.nilFunc])) (fun V b6 O=>?_);refine kb O (Yy (cs:=[.nilFunc])) (fun V b7 O=>?_);refine Wo 5 Z<|gF O Z (UM Z Z Z O.g1 (m:=1) Z Z (cells':=[_]) Z) Z (fun V O=>?_);refine Wo 5 Z<|ks O (UM Z Z Z O.g0 (m:=1) Z Z (cells':=[_]) Z) (fun V O=>?_);refine Wu O 5 [0] Z Z ?_;rw[tL_<|bI N] at W;replace O:=O.pull (.there (.there (.dz (.dz (.there (.there<|bu.here (X:=[_])))))));rw[za_] at O;replace O:=O.pull (.there (.there (.there (.dz (.dz (.there<|bu.here (X:=[_])))))));rw[za_] at O;replace O:=O.pull (.there (.there (.there (.there (.dz<|bu.here (X:=MI))))));replace O:=O.pull (.dz (.there (.there (.there (.there<|bu.here (X:=MN))))));replace O:=O.pull (.dz (.dz (.there (.there (.there (.there (.there (.there<|bu.here (X:=[_])))))))));rw[za_] at O;replace O:=O.pull (.there (.dz (.dz (.there (.there (.there (.there (.there<|bu.here (X:=[_])))))))));rw[za_] at O;replace O:=O.pull (.there (.there (.dz (.dz (.there (.there (.there (.there<|bu.here (X:=[_])))))))));rw[za_] at O;replace O:=O.pull (.there (.there (.there (.dz (.dz (.there (.there (.there<|bu.here (X:=[_])))))))));rw[za_] at O;replace O:=O.pull (.there (.there (.there (.there (.dz (.dz (.there (.there<|bu.here (X:=[_])))))))));rw[za_] at O;obtain⟨K1,A,C,O⟩:=O.bZ (M:=_::_::_::_::_::MN);have aE:tN K1 m init threads vi vt p2 p3 p4 u b1 b2 b5 b4 b3 b6 b7 us MN X0:=⟨⟨C _ (.tail _ (.tail _ (.tail _ (.tail _ (.head _))))),C _ (.tail _ (.tail _ (.tail _ (.head _)))),by rw[wlen];exact C _ (.tail _ (.tail _ (.head _))),C _ (.tail _ (.head _)),hi.mono A fun _ _ h=>h,hw.mono A fun _ _ h=>h.mono A⟩,C _ (.head _),hr.mono A fun _ _ h=>h,hs.mono A fun _ _ h=>h.mono A,fun e he=>C e (mC_ _<|mC_ _<|mC_ _<|mC_ _<|mC_ _ he),T.mono (iD A fun _ h=>h) fun _ _ h=>h.mono A⟩;have hF0:fq 2 89 fj (eP (iM threads) (pZ threads)<|List.replicate (pZ threads).length ⟨0,0⟩) us MI:=by rw[Gs];exact W
 refine kw (Yu Z Z Z) (Nb hG hm (by rw[wlen];exact h6) hwl hsl hrl hN oM (pZ threads).length 0 K1 _ (List.replicate init.length .aw) .aw [] [] MI _ oM List.length_replicate aE hF0 (by rw[List.length_replicate,wlen]) (fun v hv=>by rw[eR_ hv];exact⟨Z,Z⟩) ⟨cO.nil,.inr Z⟩ (by rw[List.take_zero,Bt];have:=Ko hT (fun e=>by rw[e] at Q;exact Bool.noConfusion (show true=false from Q));show 0+_<=_;omega) O) ?_;rintro ba V ⟨K2,bb,usO2,u2,M2,MF2,ap,_,_,hF2,_,_,hA2,O⟩;rw[List.take_zero,Bt] at hA2;refine Wo 4 Z<|S Z (Yw Z O.cF.pop.g0 Z) Z<|Xf 4 Z ?_;exact az Z Z ⟨K2,M2,KP.le_trans A ap,hA2,O.cF.pop.pop⟩
variable {I:KP->List (List<|List bW)->Own->Prop} {pre:List (List bW)} {vs:List Y} {bS bt:Nat}
def su (SL:List (List<|List bW)) (x:Nat) (pre:List (List bW)):List (List<|List bW):=(jq<|SL.drop x).map (pre++·)
theorem Kr {SL:List (List<|List bW)} {x:Nat} (h:SL.length<=x):su SL x pre= [pre]:=by
 unfold su;rw[List.drop_of_length_le h];show [pre++[]]=_;rw[zk_]
theorem Bu {SL:List (List<|List bW)}:su SL 0 []=jq SL:=by
 unfold su;rw[List.drop_zero];simp
theorem EE {SL:List (List<|List bW)} {x:Nat} {S_:List (List bW)} (h:SL[x]? =some S_):su SL x pre=S_.flatMap fun o=>su SL (x+1) (pre++[o]):=by
 unfold su;obtain⟨hx,rfl⟩:=gA.1 h;rw[zj_ hx];show((SL[x]).flatMap fun o=>(jq<|SL.drop (x+1)).map (o::·)).map _=_
 rw[List.map_flatMap];refine congrArg (fun f=>List.flatMap f SL[x])<|funext fun o=>?_;rw[List.map_map];refine List.map_congr_left fun r _=>?_
 show pre++o::r=(pre++[o])++r;rw[lQ_];rfl
theorem Sz {α β:Type} {acc T:List β} {f:α->List β} {S_:List α} {i:Nat} {o:α} (u:S_[i]? =some o) (h:acc++S_.flatMap f<+:T):(acc++(S_.take i).flatMap f)++f o<+:T:=by
 refine List.IsPrefix.trans ?_ h;have:(acc++(S_.take i).flatMap f)++f o=acc++(S_.take (i+1)).flatMap f:=by rw[eW u,List.flatMap_append,List.flatMap_singleton,lQ_]
 rw[this,List.prefix_append_right_inj];refine⟨(S_.drop (i+1)).flatMap f,?_⟩;rw[<-List.flatMap_append,List.take_append_drop]
structure l9 (K:KP) (os:List (List bW)) (us:List Y) (n:Nat):Prop where
 len:us.length=n
 leaf:∀v∈us,cE v=some [v]/\eX v=true
 at_:∀(y:Nat) (l:List bW),os[y]? =some l->∃v,us[y]? =some v/\bG K 5 iN l v
theorem l9.gB {K K2:KP} {os:List (List bW)} {n b:Nat} (h:l9 K os us n) (hn:os.length=n) (aa:n<=1000) (hb:K2 b (.row us e false)):bG K2 1 (RL K 5 iN) os (.slice b 0 n (.known n)):=by
 refine .inr ⟨b,0,_,us,e,false,by rw[hn],.inr ⟨_,Z,by omega⟩,hb,by rw[h.len];omega,by omega,fun i x hx=>?_⟩;obtain⟨v,h1,u⟩:=h.at_ i x hx;refine⟨v,?_,u⟩;rw[Nat.mul_one,nA_];obtain⟨hi,rfl⟩:=gA.1 h1;rw[zj_ hi];rfl
theorem l9.mono {K K':KP} {os:List (List bW)} {us:List Y} {n:Nat} (h:l9 K os us n) (hk:KP.le K K'):l9 K' os us n:=⟨h.len,h.leaf,fun y l hl=>let ⟨v,h1,u⟩:=h.at_ y l hl;⟨v,h1,u.mono hk fun _ _ h=>h⟩⟩
theorem l9.push {os:List (List bW)} {n x:Nat} {l:List bW} {v:Y} (h:l9 K os us n) (hx:os.length=x) (hn:x<n) (hv:bG K 5 iN l v) (hl:cE v=some [v]/\eX v=true):l9 K (os++[l]) (us.set x v) n:=by
 refine⟨by rw[zg_];exact h.len,fun w hw=>?_,fun y r u=>?_⟩
 ·rcases List.mem_or_eq_of_mem_set hw with hw | rfl
  ·exact h.leaf w hw
  exact hl
 by_cases e:y<os.length
 ·rw[gL_ e] at u;obtain⟨w,h1,A⟩:=h.at_ y r u;exact⟨w,by rw[List.getElem?_set_ne oM];exact h1,A⟩
 have hy:=(gA.1 u).1;rw[lA_,zq_] at hy;obtain rfl:y=os.length:=by omega
 rw[gR_<|nR_ _,Nat.sub_self] at u;cases u;exact⟨v,by rw[<-hx];exact List.getElem?_set_self (by rw[h.len];omega),hv⟩
theorem l9.agree {os:List (List bW)} {u:List Y} {n x:Nat} (h:l9 K os us n) (hx:os.length<=x) (hl:u.length=n) (hf:∀v∈u,cE v=some [v]/\eX v=true) (he:∀y,y<x->u[y]? =us[y]?):l9 K os u n:=
 ⟨hl,hf,fun y l hy=>let ⟨v,h1,A⟩:=h.at_ y l hy;⟨v,by rw[he y (by have:=(gA.1 hy).1;omega)];exact h1,A⟩⟩
structure Ef (K:KP) (SL:List (List<|List bW)) (vs:Y) (b:Pos) (bt bS bY bR bF:Nat):Prop where
 st:K bS (.row [vs] 46 false)
 yi:K bY (.row [.yield b] 87 false)
 Xm:K bR (.row [.slice bt 0 SL.length (.known SL.length)] 31 false)
 fn:K bF (.row [.func 36 [] [.ptr bS 0,.ptr bY 0,.ptr bR 0,.ptr bF 0]] 45 false)
 hs:bG K 1 (RL K 10<|wq K) SL vs
theorem iW {K K':KP} (hk:KP.le K K') {l:List (List bW)} (h:RL K 10 (wq K) l vs):RL K' 10 (wq K') l vs:=let ⟨v,h1,u⟩:=h;⟨v,h1,u.mono hk fun _ _ h=>h.mono hk⟩
theorem Ef.mono {K K':KP} {SL:List (List<|List bW)} {vs:Y} {b:Pos} {bt bS bY bR bF:Nat} (h:Ef K SL vs b bt bS bY bR bF) (hk:KP.le K K'):Ef K' SL vs b bt bS bY bR bF:=
 ⟨hk _ _ h.st,hk _ _ h.yi,hk _ _ h.Xm,hk _ _ h.fn,h.hs.mono hk fun _ _ h=>iW hk h⟩
theorem UQ (hG:Plain G) {K0:KP} {b:Pos} {SL:List (List<|List bW)} {vs:Y} {bY bR bF:Nat} (hn:SL.length<=1000) {J:KP->Own->Prop} {T:List (List<|List bW)}
  (hY:∀(bt:Nat) (K:KP) (acc:List (List<|List bW)) (w:List (List bW)) (us:List Y) (L:Own) (V:D),KP.le K0 K->I K acc L->l9 K w us SL.length->w.length=SL.length->(acc++[w])<+:T->H V K ((bt,.row us 41 false)::L)->kM Tryz.prog G b [.slice bt 0 SL.length (.known SL.length)] V fun v V'=>∃K' L',KP.le K K'/\H V' K' ((bt,.row us 41 false)::L')/\((v= .bool true/\I K' (acc++[w]) L')∨(v= .bool false/\J K' L'))):
  ∀(f x:Nat) (K:KP) (acc:List (List<|List bW)) (pre:List (List bW)) (us:List Y) (L:Own) (V:D),x+f=SL.length->pre.length=x->KP.le K0 K->Ef K SL vs b bt bS bY bR bF->l9 K pre us SL.length->I K acc L->acc++su SL x pre<+:T->H V K ((bt,.row us 41 false)::L)->
   EC G 36 [nI x,.ptr bS 0,.ptr bY 0,.ptr bR 0,.ptr bF 0] V fun v V'=>∃K' us' L',KP.le K K'/\us'.length=SL.length/\(∀v∈us',cE v=some [v]/\eX v=true)/\(∀y,y<x->us'[y]? =us[y]?)/\H V' K' ((bt,.row us' 41 false)::L')/\((v= .bool true/\I K' (acc++su SL x pre) L')∨(v= .bool false/\J K' L')):=by
 intro f;induction f with
 | zero=>
  intro x K acc pre us L V hx X hK W hR hI hp O;refine XD hG Tryz.func36 Z<|Wi 9 Z<|S Z (Yw Z (O.bJ W.st) Z) Z<|S Z (Yx W.hs Z Z Z (e:=50) Z) Z<|Xd 3 Z<|aG Z (fun E=>?_) (fun E=>?_)
  ·refine Xb 2 Z<|S Z (Yw Z (O.bJ W.yi) Z) Z<|S Z (Yw Z (O.bJ W.Xm) Z) Z ?_;rw[Kr oM] at hp⊢;refine Jq Z (Kc Z Z Z) (fun _=>Z) (hY bt K acc pre us L _ hK hI hR oM hp O) ?_;rintro bf V ⟨K1,L1,ab,O,hv⟩;refine Wq 5 Z ?_;exact az Z Z ⟨K1,us,L1,ab,hR.len,hR.leaf,fun _ _=>Z,O,hv⟩
  exact absurd E (by rw[show x=SL.length by omega,dS];simp)
 | succ f ih=>
  intro x K acc pre us L V hx X hK W hR hI hp O;obtain⟨S_,hS⟩:=da (show x<SL.length by omega);rw[EE hS] at hp;refine XD hG Tryz.func36 Z<|Wi 9 Z<|S Z (Yw Z (O.bJ W.st) Z) Z<|S Z (Yx W.hs Z Z Z (e:=50) Z) Z<|Xd 3 Z<|aG Z (fun E=>?_) (fun E=>?_)
  ·exact absurd E (by rw[dS,decide_eq_true_iff];intro h;have:=iJ_ h;omega)
  refine VD 5 Z<|S Z (Yw Z (O.bJ W.st) Z) Z<|vQ 1 Z<|Yp (e:=50) (m:=1) W.hs hS Z Z Z Z (fun bg a2 ac a3 am=>?_);have hr18':=am;obtain⟨bi,rfl,F⟩:=hr18';refine S Z (Yz O ac Z Z) Z (S Z (Yx F Z Z Z (e:=71) Z) Z (Wm 4 Z (bq ([6,8]++rg 21 15) (fun j t V=>∃(i:Nat) (K2:KP) (A:List Y) (L2:Own),j+i=S_.length/\KP.le K K2/\l9 K2 pre A SL.length/\(∀y,y<x->A[y]? =us[y]?)/\I K2 (acc++(S_.take i).flatMap (fun o=>su SL (x+1) (pre++[o]))) L2/\t.get 21=some (nI i)/\H V K2 ((bt,.row A 41 false)::L2)) (S_.length) ⟨0,K,us,L,Z,KP.le_refl _,hR,(fun _ _=>Z),(by show I K (acc++[]) L;rw[zk_];exact hI),Z,O⟩ ?_)));clear O;intro j4 t V ar hI;obtain⟨i,K2,A,L2,bl,hK2,hR2,M,hI2,ao,O⟩:=hI;obtain⟨oo,rfl⟩:=ar.q1 ao Z;have hP2:=W.mono hK2;have hkS:=F.mono hK2 fun _ _ h=>h.mono hK2
  refine Xa 6 Z<|aG Z (fun C=>?_) (fun C=>?_)
  ·refine UY 6 Z ?_;obtain⟨a0,N,a4⟩:=dh C;refine Yp (e:=71) (m:=10) hkS N Z Z Z Z (fun bm a5 ap a9 aq=>?_);have hr23':=aq;obtain⟨bo,ba,bb,bc,bd,be,rfl,u⟩:=hr23';refine S Z (YA O ap Z Z) Z<|kb O (Yy (cs:=[.aw,iZ,iZ,iZ,iZ,iZ,iZ,iZ,.aw,iZ])) (fun V b1 O=>?_);refine ks O (UM Z Z Z O.g0 (m:=10) Z (aj u.leaf.2 Z) (cells':=[_,_,_,_,_,_,_,_,_,_]) Z) (fun V O=>?_);refine Wo 4 Z<|S Z (Yw Z (O.bJ hP2.Xm) Z) Z<|XS O 3 [0,0] Z Z<|S Z (dP (e:=41) (m:=1) Z B Z Z (show x<SL.length by omega)) Z<|fM O (.there .here) Z (gW Z Z u.leaf.1 O.g1 (m:=1) B Z (by rw[hR2.len];omega)<|aj u.leaf.2 aC) Z (fun V O=>?_);rw[pJ (by rw[hR2.len];omega)] at O;refine Wo 4 Z (S Z (Yw Z (O.bJ hP2.fn) Z) Z (vQ 1 Z (S Z (aB (v:=nI (x+1)) Z Z<|cI<|a6 oM) Z ?_)));replace O:=O.sub (.cons _ (.cons_cons _ (.refl _)));have hp2:=Sz N hp;refine kw (Yu Z Z Z) (ih (x+1) K2 _ (pre++[a0]) _ L2 _ oM (by rw[lA_,zq_];omega) (KP.le_trans hK hK2) hP2 (hR2.push X oM u u.leaf) hI2 hp2 O) ?_;rintro _ V ⟨K3,aa,L3,Q,ax,aE,a1,O,hv⟩;have R:∀y,y<x->aa[y]? =A[y]?:=fun y hy=>by rw[a1 y oM,List.getElem?_set_ne oM]
   rcases hv with ⟨rfl,hI3⟩ | ⟨rfl,hJ3⟩
   ·refine S Z (ek Z) Z<|Wp 5 Z<|XK 4 Z<|aJ ⟨j4-1,(by have:=aS C;omega),oF,i+1,K3,aa,L3,(by have:=aS C;omega),KP.le_trans hK2 Q,(hR2.mono Q).agree (x:=x) oM ax aE R,(fun y hy=>by rw[R y hy];exact M y hy),(by rw[eW N,List.flatMap_append,List.flatMap_singleton,<-lQ_];exact hI3),cI<|a6 (by have:=aS C;have:=F.cQ;omega),O⟩
   refine S Z (ek Z) Z<|Xf 9 Z<|aI<|aA<|bP<|aI<|aA (?_);exact az Z Z ⟨K3,aa,L3,KP.le_trans hK2 Q,ax,aE,(fun y hy=>by rw[R y hy];exact M y hy),O,.inr ⟨Z,hJ3⟩⟩
  refine Wl 3 Z<|aQ<|XN 6 Z ?_;exact az Z Z ⟨K2,A,L2,hK2,hR2.len,hR2.leaf,M,O,.inl ⟨Z,by rw[EE hS,<-tL_ (bI C)];exact hI2⟩⟩
theorem Qh (A:Plain G) {v:Y} (hv:cE v=some [v]/\eX v=true) (O:H V K L):
  EC G 16 [v] V fun u V'=>∃K' bl,KP.le K K'/\K' bl (.row [v] 46 false)/\u= .func 35 [] [.ptr bl 0]/\H V' K' L:=by
 refine XD A Tryz.func16 Z<|Xb 2 Z<|kb O (cL Z hv.1) (fun V C O=>?_);refine Xf 10 Z ?_;exact az Z Z (let ⟨E,h1,F,h3⟩:=H.bZ (M:=[_]) O;⟨E,C,h1,F _ (.head _),Z,h3⟩)
theorem Qg (R:Plain G) {C:KP} {b:Pos} {SL:List (List<|List bW)} {vs:Y} (W:bG C 1 (RL C 10<|wq C) SL vs) (hn:SL.length<=1000) (E:C bS (.row [vs] 46 false)) {J:KP->Own->Prop}
  (hY:∀(bt:Nat) (K:KP) (acc:List (List<|List bW)) (w:List (List bW)) (us:List Y) (L:Own) (V:D),KP.le C K->I K acc L->l9 K w us SL.length->w.length=SL.length->(acc++[w])<+:jq SL->H V K ((bt,.row us 41 false)::L)->kM Tryz.prog G b [.slice bt 0 SL.length (.known SL.length)] V fun v V'=>∃K' L',KP.le K K'/\H V' K' ((bt,.row us 41 false)::L')/\((v= .bool true/\I K' (acc++[w]) L')∨(v= .bool false/\J K' L')))
  {L:Own} (hI:∀K,KP.le C K->I K [] L) {V:D} (O:H V C L):
  EC G 35 [.yield b,.ptr bS 0] V fun _ V'=>∃K' L',KP.le C K'/\H V' K' L'/\(I K' (jq SL) L'∨J K' L'):=by
 refine XD R Tryz.func35 Z<|Xb 2 Z<|kb O (cL Z Z) (fun V b1 O=>?_);refine Wo 4 Z<|S Z (Yw Z (O.bJ E) Z) Z<|S Z (Yx W Z Z Z (e:=50) Z) Z<|gE O Z (gT (e:=41) (w:=24) (z:=[.aw]) B B B B Z Z oM oM) (fun _=>Z) (fun V b2 O=>?_);rw[jh] at O;refine kb O (Yy (cs:=[.aw])) (fun V b3 O=>?_);refine ks O (UM Z Z Z O.g0 (m:=1) Z Z (cells':=[_]) Z) (fun V O=>?_);refine Wo 4 Z<|kb O (Yy (cs:=[.nilFunc])) (fun V b4 O=>?_);refine Wo 5 Z<|ks O (UM Z Z Z O.g0 (m:=1) Z Z (cells':=[_]) Z) (fun V O=>?_);refine Xe 3 Z<|S Z (Yw Z O.g0 Z) Z ?_;replace O:=O.pull (.there (.there<|bu.here (X:=[_])));rw[za_] at O;replace O:=O.pull (.there (.there (.there<|bu.here (X:=[_]))));rw[za_] at O;replace O:=O.pull (.there (.there (.there<|bu.here (X:=[_]))));rw[za_] at O;replace O:=O.pull (.there (.there (.there<|bu.here (X:=[_]))));rw[za_] at O;obtain⟨N,u,A,O⟩:=O.bZ (M:=[_,_,_]);have Q:Ef N SL vs b b2 bS b1 b3 b4:=⟨u _ _ E,A _ (.tail _ (.tail _ (.head _))),A _ (.tail _ (.head _)),A _ (.head _),W.mono u fun _ _ h=>iW u h⟩;refine kw (Yu Z Z Z) (UQ R hn (I:=I) (J:=J) (T:=jq SL) hY SL.length 0 N [] [] (List.replicate SL.length .aw) L _ oM Z u Q ⟨List.length_replicate,fun v hv=>by rw[eR_ hv];exact⟨Z,Z⟩,fun y l h=>by cases h⟩ (hI N u) (by rw[Bu];exact List.prefix_refl _) O) ?_;rintro aa V ⟨K2,ab,L2,F,_,_,_,O,hv⟩;rw[Bu] at hv;refine ae ?_;exact nk Z ⟨K2,L2,KP.le_trans u F,O.pop,hv.imp (fun h=>h.2) (fun h=>h.2)⟩
variable {ws:List (List<|List bW)}
def S8 (k:Nat) (vs:List Int):List XC->Int
 | []=>0
 | c::l=>bif bT (bD (km k c vs) 0) then km k c vs else S8 k vs l
theorem Ik {k:Nat} {vs:List Int}:∀{l:List XC},(∀c∈l,bD (km k c vs) 0=true)->S8 k vs l=0
 | [],_=>rfl
 | c::l,h=>by
  unfold S8;rw[h c<|mS_ ..];exact Ik fun c hc=>h c (mC_ _ hc)
theorem JU {k:Nat} {vs:List Int} {c:XC}:∀{l:List XC} {i:Nat},l[i]? =some c->(∀c∈l.take i,bD (km k c vs) 0=true)->bD (km k c vs) 0=false->S8 k vs l=km k c vs
 | [],i,h,_,_=>by simp at h
 | d::l,0,h,_,u=>by
  simp only[zm_,oJ_] at h;subst h;unfold S8;rw[u];rfl
 | d::l,i+1,h,h1,u=>by
  unfold S8;rw[h1 d (by simp)];exact JU (by simpa using h) (fun c hc=>h1 c (by rw[List.take_succ_cons];exact mC_ _ hc)) u
def mV (k:Nat) (vs:List Int) (l:List XC):List (List<|List bW):=jq (l.map fun c=>mY k c vs)
def vH (init:List Int) (w:List (List bW)):Nat:=max 1 (nZ (eZ init w)<|gR init w)
def mm (init:List Int) (ws:List (List<|List bW)):Nat:=(ws.map<|vH init).sum
theorem rG {init:List Int} {w:List (List bW)}:mm init (ws++[w])=mm init ws+vH init w:=by unfold mm;simp
theorem EK {init:List Int} {T:List (List<|List bW)} (h:ws<+:T):mm init ws<=mm init T:=by
 obtain⟨t,rfl⟩:=h;unfold mm;rw[List.map_append,List.sum_append];omega
def GD (k:Nat) (init:List Int) (l:List XC):Int:=
 bif bT (bD (eD k init l).1 0) then(eD k init l).1 else bif bT (bD (S8 k (eD k init l).2 l) 0) then S8 k (eD k init l).2 l else
 bif decide (16385<=mm init (mV k (eD k init l).2 l)) then 3 else 0
def Yb (k:Nat) (init:List Int) (l:List XC):List XG:=(mV k (eD k init l).2 l).flatMap (jk fS init)
def Tn (m:Int) (k:Nat) (init:List Int) (l:List XC) (a:List XG):Prop:=
 (GD k init l≠0/\a= [])∨(GD k init l=0/\a.length<=1000000/\a.Perm ((Yb k init l).filter<|iq m)/\a.Pairwise fun x y=>decide (ml y x<0)=false)
theorem Kp {init:List Int} {threads:List (List bW)} (h:nZ (eZ init threads) (gR init threads)<=16384) (h0:nZ (eZ init threads) (gR init threads)≠0):(jk fS init threads).length<=nZ (eZ init threads) (gR init threads):=by
 have e:(jk fS init threads).length=fB ((eZ init threads).map List.length)*fB ((gR init threads).flatMap fun w=>fO w.length):=by
  unfold jk;rw[List.length_flatMap];simp only[lM_];rw[List.map_const',List.sum_replicate_nat,oH,oH,tg]
 rw[e];unfold nZ at h h0⊢;have h1:fN ((eZ init threads).map List.length) 1≠0:=fun e=>by rw[e,wa] at h0;exact h0 Z
 have h2:=r5 (by decide) h1;have h3:fN ((eZ init threads).map List.length) 1<=16385:=kP (by decide);have h4:=r5 h3 h0;have h5:=vZ (vL (wrs:=gR init threads));generalize fB ((gR init threads).flatMap fun w=>fO w.length)=P2 at*;generalize fB ((eZ init threads).map List.length)=P1 at*;rw[Nat.one_mul] at h2
 by_cases hc:P1<=16385
 ·rw[Nat.min_eq_left hc] at h2;rw[h2] at h4 h⊢;omega
 rw[Nat.min_eq_right oM] at h2;rw[h2] at h4 h;have h6:16385*1<=16385*P2:=Nat.mul_le_mul_left _ h5;omega
theorem Br {init:List Int} {w:List (List bW)} (h:vH init w<=16384):(jk fS init w).length<=vH init w:=by
 unfold vH at h⊢
 by_cases e:nZ (eZ init w) (gR init w)=0
 ·rw[yt e];exact Nat.zero_le _
 have:=Kp oM e;omega
theorem I0 {init:List Int}:∀{ws:List (List<|List bW)} {w:List (List bW)},w∈ws->vH init w<=mm init ws
 | x::ws,w,h=>by
  unfold mm;rw[List.map_cons,List.sum_cons];rcases mQ_.1 h with rfl | h
  ·omega
  have:=I0 (init:=init) h;unfold mm at this;omega
theorem vD {init:List Int}:∀{ws:List (List<|List bW)},mm init ws<=16384->(ws.flatMap<|jk fS init).length<=mm init ws
 | [],_=>Nat.zero_le _
 | w::ws,h=>by
  unfold mm at h⊢;rw[List.map_cons,List.sum_cons] at h⊢;have h1:=Br (init:=init) (w:=w) oM;have h2:=vD (init:=init) (ws:=ws) (by unfold mm;omega);unfold mm at h2;rw[List.flatMap_cons,lA_];omega
variable {c:XC}
theorem zK {β:Type}:∀{L:List (List β)} {p:List β},II p L->p.length=L.length/\∀x∈p,∃o∈L,x∈o
 | [],[],_=>⟨Z,fun x h=>by cases h⟩
 | [],_::_,h=>h.elim
 | _::_,[],h=>h.elim
 | o::r,x::p,h=>by
  obtain⟨h1,u⟩:=zK h.2;refine⟨by simp[h1],fun y hy=>?_⟩;rcases mQ_.1 hy with rfl | hy
  ·exact⟨o,mS_ ..,h.1⟩
  obtain⟨q,h3,A⟩:=u y hy;exact⟨q,mC_ _ h3,A⟩
theorem Nu {init:List Int} {w:List (List bW)} (h6:init.length<=6) (h4:w.length<=4) (u:∀r∈w,r.length<=14) (A:∀r∈w,∀e∈r,cj e (.ofNat init.length)=true):Dc init w=0:=by
 unfold Dc;have e1:cW 6 (.ofNat init.length)=false:=by rw[show(6:Int)= .ofNat 6 from Z,gL];simp;omega
 have e2:cW 4 (.ofNat w.length)=false:=by rw[show(4:Int)= .ofNat 4 from Z,gL];simp;omega
 have C:w.any (fun r=>cW 14 (.ofNat r.length))=false:=by
  rw[List.any_eq_false];intro r A;have:=u r A;rw[show(14:Int)= .ofNat 14 from Z,gL];simp;omega
 have E:w.any (fun r=>r.any fun e=>bT (cj e (.ofNat init.length)))=false:=by
  rw[List.any_eq_false];intro r h;rw[Bool.not_eq_true,List.any_eq_false];intro e he;rw[A r h e he];decide
 rw[e1,e2,C,E];rfl
theorem Kh {k:Nat} {n:Int} (hf:kZ k c=true) (u:∀x∈c.ins,uu n x=false) (vs:List Int):∀l∈mY k c vs,∀e∈l,cj e n=true:=by
 obtain⟨aa,hc,od,C,E⟩:=mD hf;exact Ei fun A=>(LY hc C E u A).1
theorem Ax {k:Nat} {init:List Int} {l:List XC} (E:wM k init l=0) {vs:List Int} {w:List (List bW)} (hw:w∈mV k vs l):Dc init w=0:=by
 obtain⟨h4,F,u⟩:=yU E;obtain⟨h1,G⟩:=zK (rR.1 hw);rw[lM_] at h1
 have hx:∀r∈w,∃c∈l,r∈mY k c vs:=fun r A=>by
  obtain⟨o,I,C⟩:=G r A;obtain⟨c,hc,rfl⟩:=zn_.1 I;exact⟨c,hc,C⟩
 refine Nu F oM (fun r A=>?_) fun r A=>?_
 ·obtain⟨c,hc,h⟩:=hx r A;exact IL (u c hc).1 (u c hc).2.1 vs r h
 obtain⟨c,hc,h⟩:=hx r A;exact Kh (u c hc).1 (u c hc).2.2 vs r h
theorem Sl {k:Nat} {init:List Int} {l:List XC} (h:bD (eD k init l).1 0=true):wM k init l=0:=by
 cases u:bD (wM k init l) 0 with
 | true=>exact UX u
 | false=>
  unfold eD at h;rw[u] at h;have h:bD (wM k init l) 0=true:=h;rw[u] at h;cases h
theorem Nl {init:List Int} {w:List (List bW)}:vH init w<=16385:=by
 unfold vH;have:=Sh (srcs:=eZ init w) (wrs:=gR init w);omega
theorem QW {init:List Int} {w:List (List bW)} {N:Nat} (h:N<=16384):wr .i64 (Int.add (.ofNat N) (bif cW 1 (.ofNat<|nZ (eZ init w)<|gR init w) then .ofNat (nZ (eZ init w)<|gR init w) else 1))= .ofNat (N+vH init w):=by
 have hm:=Nl (init:=init) (w:=w)
 have:(bif cW 1 (.ofNat<|nZ (eZ init w)<|gR init w) then .ofNat (nZ (eZ init w)<|gR init w) else(1:Int))= .ofNat (vH init w):=by
  unfold vH;rw[show(1:Int)= .ofNat 1 from Z,gL]
  by_cases hc:1<nZ (eZ init w) (gR init w)
  ·rw[decide_eq_true hc,Nat.max_eq_right oM];rfl
  rw[decide_eq_false hc,Nat.max_eq_left oM];rfl
 rw[this,SD oM]
theorem Rb {a:Nat} (h:bT (cW (.ofNat a) 16385)=true):16385<=a:=by
 rw[show(16385:Int)= .ofNat 16385 from Z,gL] at h;rcases Nat.lt_or_ge a 16385 with hc | hc
 ·rw[decide_eq_true hc] at h;cases h
 exact hc
theorem TI {a:Nat} (h:bT (cW (.ofNat a) 16385)=false):a<=16384:=by
 rw[show(16385:Int)= .ofNat 16385 from Z,gL] at h;rcases Nat.lt_or_ge a 16385 with hc | hc
 ·omega
 rw[decide_eq_false oM] at h;cases h
def Vb:cd->cd
 | .loop _ _ tm m ps sa bd bm=>.loop .done (some .ret) tm m ps sa bd bm
 | o=>o
def Wx (init:List Int) (b15 bl bm:Nat) (lo:cd) (X:Own) (_:KP) (acc:List (List<|List bW)) (L':Own):Prop:=mm init acc<=16384/\L'=(bl,lo)::(bm,.mark)::(b15,.row [.int .i64 (.ofNat<|mm init acc)] 53 false)::X
def Wy (N b15 b3 b4 bl bm:Nat) (lo:cd) (X:Own) (_:KP) (L':Own):Prop:=16385<=N/\∃n:Nat,L'=(bl,Vb lo)::(bm,.mark)::(b15,.row [.int .i64 (.ofNat n)] 53 false)::(b4,.row [.int .i64 3] 27 false)::(b3,.row [.aw] 26 false)::X
def X3 (m:Int) (init:List Int) (b17 bl bm:Nat) (lo:cd) (X:Own) (K:KP) (acc:List (List<|List bW)) (L':Own):Prop:=∃ua Ma,p7 4 34 (RG K) ((acc.flatMap<|jk fS init).filter<|iq m) ua Ma/\L'=(bl,lo)::(bm,.mark)::(b17,.row [ua] 26 false)::(Ma++X)
variable {ts:Array TypeId} {la:List α} {R:α->List Y->Prop}
section
variable {P:Program} {V:D} {K:KP} {L:Own}
theorem LF {m:Nat} {l l2:List α} {u E:Y} {t:TypeId} (C:p7 m e R l u M) (O:H V K (M++L))
  (hx:bG K m R l2 E) (A:∀x vs,R x vs->cg vs=true) (hn:l.length+l2.length<=1048576)
  (F:ts[0]? =some t) (hu:P.underlying t=some (.slice e)) (I:qc P e m=true) (N:dN P ts[1]? =true):
  ∃V' u' M',fI P V ts u E= .val u' V'/\p7 m e R (l++l2) u' M'/\H V' K (M'++L):=by
 by_cases h:l++l2= []
 ·obtain⟨rfl,rfl⟩:=List.append_eq_nil_iff.1 h;obtain rfl:u= .aw:=C.2.resolve_left (by simp)
  obtain rfl:M= []:=by
   rcases C.1 with ⟨_,_,h⟩ | ⟨b,c,cells,e',h,_⟩
   ·exact h
   cases h
  exact⟨V,_,[],CH O hx A F hu I N,⟨cO.nil,.inr Z⟩,O⟩
 obtain⟨V',u',M',T,W,X⟩:=vX (P:=P) C.1 O hx A hn F hu I N;exact⟨V',u',M',T,⟨W,.inl h⟩,X⟩
end
section
variable {P:Program} {G:Cx} {n:Nat} {t:PT Y} {V:D} {K:KP} {L:Own} {Q:Ex->PT Y->D->Prop} {ops:Array Oper} {o:Oper} {l:List Oper} {lp:List (Nat×List Nat)} {ix:Nat} {rc:List Nat}
theorem Uc {m:Nat} {l2:List α} {u:Y} {ty:TypeId} {t':Y->PT Y} (X:p7 m e R la u M) (hs:H V K (M++L)) (hx:bG K m R l2 T) (A:∀x vs,R x vs->cg vs=true) (hn:la.length+l2.length<=1048576)
  (E:ops[ix]? =some o) (hw:bH ops t o=some true) (ho:o.op= .call cl) (F:cl.callee= .builtin .append) (C:cl.args.toList= [so,xo]) (ht:cl.argTypes[0]? =some ty) (I:bA G t so=some u) (N:bA G t xo=some T) (hp:∀v,dA t n o.dst v=some (t' v))
  (h:∀(V':D) (u':Y) (M':Own),p7 m e R (la++l2) u' M'->H V' K (M'++L)->dw P G ops (t' u') V' rc=true/\cS P G ops n lp (t' u') V' Q) (hu:P.underlying ty=some (.slice e):=by kernel_rfl) (ha:qc P e m=true:=by kernel_rfl) (W:dN P cl.argTypes[1]? =true:=by kernel_rfl):cS P G ops n ((ix,rc)::lp) t V Q:=by
 obtain⟨V',u',M',k1,k2,k3⟩:=LF (P:=P) X hs hx A hn ht hu ha W;refine np E hw ?_ (hp _)<|h V' u' M' k2 k3;rw[ho];exact gq F C I N W k1
end
variable {ps:Array Tmp} {bd sa:Code} {D_:List DE} {Q:List DE->Ex->PT Y->D->Prop} {id:Nat} {tm:PT Y} {bm:Pos}
section
variable {P:Program} {G:Cx} {n:Nat} {t:PT Y} {V:D} {K:KP} {L:Own}
def Fp (st:LoopState) (tm:PT Y) (m:Nat) (ps:List Nat) (sa bd:Code) (bm:Pos):cd:=.loop st (some .ret) tm m ps sa bd bm
theorem KO {b:Pos} {args:List Y} {R:Y->D->Prop} {m:Nat} {ps:List Nat} {t:PT Y} (hl:V.m.get b=some (eU .ready tm m ps sa bd bm)) (hp:qT m ps args tm=some t)
  (h:Ev P G sa m t V fun e E A=>e= .normal/\A.m.get b=some (eU .ready tm m ps sa bd bm)/\Ev P G bd m E (A.setObj b<|eU .busy tm m ps sa bd bm) fun e _ u=>u.m.get b=some (eU .busy tm m ps sa bd bm)/\((e= .normal/\R (.bool true) (u.setObj b<|eU .ready tm m ps sa bd bm))∨(e= .ret/\R (.bool false) (u.setObj b<|Fp .done tm m ps sa bd bm)))):kM P G b args V R:=by
 obtain⟨C,e1,E,A,h1,rfl,I,K2,e2,t2,u,h3,F,h5⟩:=h
 have key:∀k,max C K2<=k->kI (ed P G k) b args V=bif zr e2 then .err 67 else .ret (.bool<|Ay e2) (u.setObj b (.loop (r7 e2) (tw e2) tm m ps sa bd bm)):=fun k hk=>by
  unfold kI;rw[hl];dsimp only[eU];rw[hp];dsimp only;rw[h1 [] (some b) k oM];dsimp only;rw[I];dsimp only[eU];have:=h3 [] (some b) k oM;unfold eU at this F;rw[this];dsimp only;rw[F]
 rcases h5 with ⟨rfl,h5⟩ | ⟨rfl,h5⟩
 ·exact⟨max C K2,_,_,fun k hk=>key k hk,h5⟩
 exact⟨max C K2,_,_,fun k hk=>key k hk,h5⟩
theorem yR {b:Pos} {args:List Y} {R:Y->D->Prop} {m:Nat} {ps:List Nat} {t:PT Y} (O:H V K ((b,eU .ready tm m ps sa bd bm)::L)) (hp:qT m ps args tm=some t)
  (h:Ev P G sa m t V fun e M N=>e= .normal/\∃E F,H N E ((b,eU .ready tm m ps sa bd bm)::F)/\∀I,H I E ((b,eU .busy tm m ps sa bd bm)::F)->Ev P G bd m M I fun e _ Q=>∃A C,H Q A ((b,eU .busy tm m ps sa bd bm)::C)/\((e= .normal/\∀u,H u A ((b,eU .ready tm m ps sa bd bm)::C)->R (.bool true) u)∨(e= .ret/\∀u,H u A ((b,Fp .done tm m ps sa bd bm)::C)->R (.bool false) u))):kM P G b args V R:=
 KO (O.get 0 Z) hp (h.mono fun _ _ _ ⟨he,_,_,h1,T⟩=>⟨he,h1.get 0 Z,(T _<|h1.nU _).mono fun _ _ _ ⟨_,_,h3,W⟩=>⟨h3.get 0 Z,W.imp (fun h=>⟨h.1,h.2 _<|h3.nU _⟩) (fun h=>⟨h.1,h.2 _<|h3.nU _⟩)⟩⟩)
theorem yO {g:Operand} {f:Nat} (O:H V K L) (N:bA G t g=some (.func f fi ca)) (F:lz P f=true)
  (h:∀(bm bl:Pos) (M:D),H M K ((bl,eU .ready t n ps.toList sa bd bm)::(bm,.mark)::L)->aW P G f (fi++(.yield bl::ca)) M fun _ σ3=>∃A C,(H σ3 A ((bl,eU .ready t n ps.toList sa bd bm)::C)/\∀E,H E A C->Q [.mark bm] .normal t E)∨(H σ3 A ((bl,Fp .done t n ps.toList sa bd bm)::C)/\∀E,H E A C->Q [.mark bm] .ret t E)):IG P G (.rangeFunc g ps sa bd) n t V Q:=by
 obtain⟨I,v,σ3,h1,A,C,u⟩:=h V.next (V.alloc .mark).next ((V.alloc .mark).alloc<|eU .ready t n ps.toList sa bd V.next) ((O.alloc .mark).alloc _)
 have key:∀d j,I<=j->ed P G (j+1) (.rangeFunc g ps sa bd) t n d none V=vw (ed P G j) (V.alloc .mark).next t n (DE.mark V.next::d) none σ3:=fun d j hj=>by
  show qV P G (ed P G j) g ps sa bd t n d none V=_;unfold qV vR;dsimp only;rw[N];dsimp only;rw[F,dU];have e1:=h1 j oM;unfold eU at e1;simp only[cond_true];rw[e1]
 rcases u with ⟨u,h3⟩ | ⟨u,h3⟩
 ·refine⟨I+1,[.mark V.next],.normal,t,_,fun d k hk=>?_,h3 _ (u.nU<|eU .exhausted t n ps.toList sa bd V.next).pop⟩;obtain⟨j,rfl⟩:∃j,k=j+1:=⟨k-1,by omega⟩;rw[key d j oM];unfold vw;have hb:=u.get 0 Z;unfold eU at hb;rw[hb];rfl
 refine⟨I+2,[.mark V.next],.ret,t,_,fun d k hk=>?_,h3 _ (u.nU<|Fp .exhausted t n ps.toList sa bd V.next).pop⟩;obtain⟨j,rfl⟩:∃j,k=j+2:=⟨k-2,by omega⟩;rw[key d (j+1) oM];unfold vw;have hb:=u.get 0 Z;unfold Fp at hb;rw[hb];rfl
theorem yN {b:Code} (h:IG P G b n t V fun D_ e t' V'=>(e= .normal∨e= .ret)/\Q D_ e t' V'):IG P G (.block id b) n t V Q:=by
 obtain⟨K,D_,e,t',V',h1,he,u⟩:=h;refine⟨K+1,D_,e,t',V',fun d k hk=>?_,u⟩;obtain⟨j,rfl⟩:∃j,k=j+1:=⟨k-1,by omega⟩;show qh id (ed P G j b t n d none V)=_;rw[h1 d j oM];rcases he with rfl | rfl<;>rfl
def KI (P:Program) (fn:Func) (R:Y->D->Prop):List DE->PT Y->D->Prop
 | [],t,V=>∃v,ec P fn t V=some v/\R v V
 | .mark b::D_,t,V=>V.m.get b=some .mark/\KI P fn R D_ t (V.setObj b .dead)
 | _,_,_=>False
theorem yH {fn:Func} {R:Y->D->Prop} {t:PT Y}:∀{D_:List DE} {V:D},KI P fn R D_ t V->∃V'' v,(∀k,qG P G (ed P G k) D_ .ret V=some (.ret,V''))/\ec P fn t V''=some v/\R v V''
 | [],V,⟨v,h1,u⟩=>⟨V,v,fun _=>Z,h1,u⟩
 | .mark b::D_,V,⟨h1,u⟩=>by
  obtain⟨V'',v,h3,A,h5⟩:=yH u;refine⟨V'',v,fun k=>?_,A,h5⟩;show(match V.m.get b with | some .mark=>qG P G (ed P G k) D_ .ret (V.setObj b .dead) | _=>none)=_;rw[h1];exact h3 k
 | .call _ _ _::_,_,h=>h.elim
theorem Nx (u:Plain G) {f:Nat} {fn:Func} {c:Code} {args:List Y} {R:Y->D->Prop} (hf:P.funcs[f]? =some fn) (hb:fn.body=some c) (F:qd fn.ntmps args=some t)
  (h:IG P G c fn.ntmps t V fun D_ e t' V'=>(e= .normal∨e= .ret)/\KI P fn R D_ t' V') (hk:Nat.beq f Lk=false:=by rfl) (hl:Hy f=false:=by rfl) (I:Mf f=false:=by rfl):aW P G f args V R:=by
 obtain⟨K,D_,e,t',V',h1,he,C⟩:=h;obtain⟨V'',v,h3,E,h5⟩:=yH (G:=G) C;refine⟨K,v,V'',fun k A=>?_,h5⟩;unfold j0;rw[u.h1 _ _ _ I];dsimp only;rw[u.h2 _ _ hl];dsimp only;rw[u.h4];dsimp only;rw[u.h5 _ hk];simp only[cond_false];unfold nc;rw[hf];dsimp only;rw[hb,F];dsimp only;have:=h1 [] k A;rw[zk_] at this;rw[this];rcases he with rfl | rfl<;>
 ·dsimp only;unfold yI;rw[h3 k];dsimp only;rw[E]
theorem vI {fn:Func} {R:Y->D->Prop} {t:PT Y} (O:H V K ((bm,.mark)::L)) (h:∀V',H V' K L->KI P fn R D_ t V'):KI P fn R (.mark bm::D_) t V:=
 ⟨O.get 0 Z,h _ (O.nU _).pop⟩
end
variable {e1 e2:Nat}
section
variable {P:Program} {t:PT Y} {V:D}
theorem uK {k ty b:Nat} {ro:Bool} {v:Y} (h1:t.get k=some (.ptr b 0)) (hm:V.m.get b=some (.row [v] e ro)) (u:dE P ty=some none):gj P t V (.cell k ty)=some v:=by
 show(match t.get (posOf k) with
  | some (.ptr b off)=>match V.m.get b with
   | some (.row cells _ _)=>match dE P ty with
    | some (some n)=>bif Nat.ble (off+n) (dt cells) then some (Y.agg<|takeN (dZ cells off) n) else none
    | some none=>nth cells off
    | none=>none
   | _=>none
  | _=>none)=_
 rw[show t.get (posOf k)=some (.ptr b 0) from h1];dsimp only;rw[hm];dsimp only;rw[u];rfl
theorem jP {fn:Func} {k u A F G:Nat} {I K:Bool} {C E:Y} (L:fn.results.toList= [.cell j u,.cell k A]) (h1:t.get j=some (.ptr F 0)) (M:t.get k=some (.ptr G 0)) (m1:V.m.get F=some (.row [C] e1 I)) (m2:V.m.get G=some (.row [E] e2 K)) (N:dE P u=some none) (Q:dE P A=some none):ec P fn t V=some (.tuple [C,E]):=by
 unfold ec;rw[L]
 have:cX (gj P t V) [.cell j u,.cell k A]=some [C,E]:=by
  unfold cX;simp only[uK h1 m1 N,uK M m2 Q]
 rw[this]
theorem ug {fn:Func} {R:Y->D->Prop} {v:Y} (h:ec P fn t V=some v) (u:R v V):KI P fn R [] t V:=⟨v,h,u⟩
end
variable {G0:Cx} {lv:Y}
theorem Qc {G:Cx} (hS:MQ G G0) (cp:sf G K) {m:Int} (hm:m=1∨m=2) {k:Nat} {init:List Int} (hi:bG K 1 dB init vi) {l:List XC} (hl:bG K 2 (sg K k) l lv) (O:H V K L):
  EC G 6 [.int .i64 m,vi,lv] V fun v V'=>∃K' u M a,KP.le K K'/\v= .tuple [u,.int .i64<|GD k init l]/\cO 4 34 (RG K') a u M/\Tn m k init l a/\H V' K' (M++L):=by
 have hG:=hS.p;refine Nx hG Tryz.func6 Z (t:=((PT.leaf.put (some (.int .i64 m)) 0).put (some (vi)) 1).put (some (lv)) 2) (by rfl)<|fJ<|ia ?_;refine af Z<|kb O (cL Z Z) (fun V b1 O=>?_);refine kb O (cL Z hi.leaf.1) (fun V b2 O=>?_);refine kb O (Yy (cs:=[.aw])) (fun V b3 O=>?_);refine kb O (Yy (cs:=[iZ])) (fun V b4 O=>?_);refine ae<|dC<|fJ<|ia ?_;refine Xb 2 Z ?_;replace O:=O.pull (.there<|bu.here (X:=[_]));rw[za_] at O;replace O:=O.pull (.there<|bu.here (X:=[_]));rw[za_] at O;replace O:=O.pull (.there (.there (.there<|bu.here (X:=[_]))));rw[za_] at O;replace O:=O.pull (.there (.there (.there<|bu.here (X:=[_]))));rw[za_] at O;obtain⟨K1,F,N,O⟩:=O.bZ (M:=[_,_]);have hb2:=N _ (.head _);have hb1:=N _ (.tail _ (.head _));clear N;have hi1:=hi.mono F fun _ _ h=>h;have hl1:=hl.mono F fun _ _ h=>h.mono F;have hgl1:=cp.mono F
 refine S Z (Yw Z (O.bJ hb1) Z) Z<|kx (Yu Z Z Z) (QD hG m O) (fun V O=>?_);refine S Z (ek Z) Z<|Xd 2 Z<|aG Z (fun b0=>?_) (fun b0=>?_)
 ·exact absurd b0 (by rcases hm with rfl | rfl<;>decide)
 refine aH<|dC<|fJ<|ia ?_;refine af Z<|S Z (Yw Z (O.bJ hb2) Z) Z<|vQ 1 Z<|kw (Yu Z Z Z) (Qe hS hgl1 hi1 hl1 O) ?_;rintro _ V ⟨K2,u8,E,rfl,cr,df,O⟩;have hi2:=hi1.mono E fun _ _ h=>h;have hl2:=hl1.mono E fun _ _ h=>h.mono E;have hgl2:=hgl1.mono E;have hb1b:=E _ _ hb1;have hb2b:=E _ _ hb2
 refine XO 6 Z<|dC<|fJ<|ia ?_;refine Xb 4 Z<|Xd 2 Z<|aG Z (fun aE=>?_) (fun aE=>?_)
 ·refine Xb 3 Z<|gF O Z (UM Z Z Z O.g1 (m:=1) Z Z (cells':=[_]) Z) Z (fun V O=>?_);refine ks O (UM Z Z Z O.g0 (m:=1) Z Z (cells':=[_]) Z) (fun V O=>?_);refine Xf 3 Z<|oS (?_);have ab:GD k init l=(eD k init l).1:=by unfold GD;rw[show bT (bD (eD k init l).1 0)=true from aE];rfl
  have hne:GD k init l≠0:=by rw[ab];exact fun e=>by rw[e] at aE;cases aE
  exact⟨.inr Z,ug (jP Z Z Z O.g1 O.g0 Z Z) ⟨K2,.aw,[],[],(KP.le_trans F E),by rw[ab],cO.nil,.inl ⟨hne,Z⟩,O.pop.pop⟩⟩
 refine aH<|dC<|fJ<|ia ?_;refine af Z ?_;have bc:bT (bD (eD k init l).1 0)=false:=aE;have hE:wM k init l=0:=Sl (dg bc);obtain⟨dr,ds,b7⟩:=yU hE;refine XO 2 Z<|dC<|fJ<|ia ?_;refine Xb 3 Z (S Z (Yx hl2 Z Z Z (e:=49) Z) Z (Wm 4 Z (bq ([10,12,13,14]++rg 33 18) (fun j t V=>∃(i:Nat) (K3:KP) (bo:Y) (aq:Own),j+i=l.length/\KP.le K2 K3/\(∀c∈l.take i,bD (km k c (eD k init l).2) 0=true)/\cO 1 50 (RL K3 10<|wq K3) ((l.take i).map fun c=>mY k c (eD k init l).2) bo aq/\t.get 10=some (bo)/\t.get 33=some (nI i)/\H V K3 (aq++(b4,.row [iZ] 27 false)::(b3,.row [.aw] 26 false)::L)) (l.length) ⟨0,K2,.aw,[],Z,KP.le_refl _,(fun c h=>by cases h),cO.nil,Z,Z,O⟩ ?_)));clear O;intro j8 t V ar hI;obtain⟨i,K3,bo,aq,dx,Q,a0,hO10,b8,b9,O⟩:=hI;obtain⟨oo,rfl⟩:=ar.q2 b8 b9 Z;have hl3:=hl2.mono Q fun _ _ h=>h.mono Q;have hgl3:=hgl2.mono Q
 refine Xa 6 Z<|aG Z (fun am=>?_) (fun am=>?_)
 ·refine UY 6 Z ?_;obtain⟨a3,ac,dk⟩:=dh am;refine Yp (e:=49) (m:=2) hl3 ac Z Z Z Z (fun d0 dl ca dm cb=>?_);have hr35':=cb;obtain⟨d3,rfl,bf⟩:=hr35';refine S Z (YA O ca Z Z) Z<|kb O (Yy (cs:=[iZ,.aw])) (fun V b5 O=>?_);refine ks O (UM Z Z Z O.g0 (m:=2) Z (aj Z<|aj bf.leaf.2 aC) (cells':=[_,_]) Z) (fun V O=>?_);refine Wo 4 Z<|S Z (YE Z O.g0 Z) Z<|vQ 1 Z ?_;obtain⟨cc,cv,_⟩:=b7 a3 (gB_ ac);obtain⟨cw,hc,od,ho,hR⟩:=mD cc;have hv3:=cr.mono Q fun _ _ h=>h
  refine kw (Yu Z Z Z) (Tm hG hgl3 hc cw ho hR cc cv bf hv3 O) ?_;rintro _ V ⟨K4,d4,T,rfl,bg,O⟩;have hO10b:=hO10.jN (R':=RL K4 10<|wq K4) fun _ _ h=>iW T h
  refine Wn 14 Z<|aG Z (fun bd=>?_) (fun bd=>?_)
  ·refine Xb 3 Z<|fM O (.there (.dz (.there .here))) Z (UM Z Z Z O.pop.cF.pop.g0 (m:=1) Z Z (cells':=[_]) Z) Z (fun V O=>?_);refine fM O (.there (.dz .here)) Z (UM Z Z Z O.pop.cF.g0 (m:=1) Z Z (cells':=[_]) Z) Z (fun V O=>?_);refine Xf 3 Z<|aA<|aI<|aA<|bP<|aI<|oS (?_);have ap:bD (km k a3 (eD k init l).2) 0=false:=by cases h:bD (km k a3 (eD k init l).2) 0 with | false=>rfl | true=>(rw[h] at bd;cases bd)
   have ab:GD k init l=km k a3 (eD k init l).2:=by unfold GD;rw[bc,JU ac a0 ap,ap];rfl
   have hne:GD k init l≠0:=by rw[ab];exact fun e=>by rw[e] at ap;cases ap
   exact⟨.inr Z,ug (jP Z Z Z O.pop.cF.pop.g0 O.pop.cF.g0 Z Z) ⟨K4,.aw,[],[],(KP.le_trans F<|KP.le_trans E<|KP.le_trans Q T),by rw[ab],cO.nil,.inl ⟨hne,Z⟩,O.pop.cF.pop.pop⟩⟩
  refine aH<|XL 3 Z<|gE O Z (cM (e:=50) (m:=1) (z:=[.aw]) (cs:=[_]) B B B B<|bn Z Z bg.leaf.1 Z cD) (fun _=>Z) (fun V b6 O=>?_);replace O:=O.pull (.there (.there<|bu.here (X:=aq)));replace O:=O.pull (.dz<|bu.here (X:=[_]));rw[za_] at O;refine kE (R:=RL K4 10<|wq K4) (m:=1) (e:=50) hO10b O (fQ (m:=1) Z (show RL K4 10 (wq K4) (mY k a3 (eD k init l).2) _ from⟨_,Z,bg⟩)) (fun x vs h=>by obtain⟨v,rfl,h⟩:=h;exact aj h.leaf.2 aC) (by have:=aS am;simp only[lM_,lT_,zc_,List.length_nil];omega) Z Z Z Z Z Z Z (fun _=>Z) (fun V cx ce hO49 O=>?_);refine XO 2 Z (aD (ad (af Z (S Z (aB (v:=nI (i+1)) Z Z<|cI<|a6 (by have:=aS am;omega)) Z<|XO 2 Z ?_))));replace O:=O.pull (.dz (.there (.there<|bu.here (X:=[_]))));rw[za_] at O;replace O:=O.pull (.there (.dz (.there<|bu.here (X:=[_]))));rw[za_] at O;replace O:=O.pull (.there (.there<|bu.here (X:=ce)));replace O:=O.pull (.dz (.there (.there<|bu.here (X:=[_]))));rw[za_] at O;have O:=O.pop;refine aJ ⟨j8-1,(by have:=aS am;omega),oF,i+1,K4,cx,ce,(by have:=aS am;omega),KP.le_trans Q T,(fun c hc=>by rw[eW ac] at hc;exact(List.mem_append.1 hc).elim (a0 c) fun h=>by rw[List.mem_singleton.1 h];exact dg bd),(by rw[eW ac,List.map_append];exact hO49),Z,Z,O⟩
 refine Wl 3 Z<|aQ<|dC<|fJ<|ia ?_;refine af Z<|kb O (Yy (cs:=[iZ])) (fun V b5 O=>?_);refine ks O (UM Z Z Z O.g0 (m:=1) Z Z (cells':=[_]) Z) (fun V O=>?_);refine ae<|dC<|fJ<|fJ<|ia ?_;refine XL 2 Z ?_;replace O:=O.pull (.there<|bu.here (X:=aq));rw[tL_<|bI am] at hO10 a0;obtain⟨K4,T,N,O⟩:=O.bZ (M:=aq);have hSL4:=(hO10.jN (R':=RL K4 10<|wq K4) fun _ _ h=>iW T h).gB N;clear N;refine kw (Yu Z Z Z) (Qh hG hSL4.leaf O) ?_;rintro _ V ⟨K5,bw,a4,c0,rfl,O⟩;have hle25:=KP.le_trans Q (KP.le_trans T a4);have hi5:=hi2.mono hle25 fun _ _ h=>h;have hSL:=hSL4.mono a4 fun _ _ h=>iW a4 h;have hb2c:=hle25 _ _ hb2b;have hb1c:=hle25 _ _ hb1b
 refine ae<|dC ?_;replace O:=O.pull (.there (.there<|bu.here (X:=[_])));rw[za_] at O;replace O:=O.pull (.there (.there<|bu.here (X:=[_])));rw[za_] at O;replace O:=O.pull (.there (.there<|bu.here (X:=[_])));rw[za_] at O;refine yN<|yO O Z B fun bp bs V O=>?_;obtain⟨ch,bi,O⟩:∃lo,lo=_/\H V K5 ((bs,lo)::_):=⟨_,Z,O⟩;refine(Qg hG hSL (by rw[lM_];omega) c0 (I:=Wx init b5 bs bp ch ((b4,.row [iZ] 27 false)::(b3,.row [.aw] 26 false)::L)) (J:=Wy (mm init<|mV k (eD k init l).2 l) b5 b3 b4 bs bp ch L) (fun bt K6 acc w us L6 V C hI hR hw hp O=>?_) (fun K6 C=>⟨Nat.zero_le _,Z⟩) O).mono fun _ V ⟨K6,L6,C,O,bv⟩=>?_
 ·subst bi;obtain⟨a5,rfl⟩:=hI;replace O:=O.perm (List.Perm.swap ..);have hi6b:=hi5.mono C fun _ _ h=>h;have hb2d:=C _ _ hb2c
  refine yR O Z ?_;have be:w∈(mV k (eD k init l).2 l):=hp.subset (List.mem_append_right _<|List.mem_singleton.2 Z);have ax:Dc init w=0:=Ax hE be;obtain⟨h6w,h4w,h14w,c3⟩:=xK ax;have hwl:=ID (init:=init) h4w h14w;have hsl:=DL (init:=init) h4w h14w;have hT:=hR.gB (K2:=K6.gw [(bt,.row us 41 false)]) hw (by rw[lM_];omega) (.inr (.head _));refine XK 3 Z ?_;refine⟨Z,K6,_,O,fun V O=>?_⟩;refine aK (ai (aU (l:=[(0,[]),(1,[]),(2,[]),(3,[0]),(4,[0]),(5,[]),(6,[]),(7,[])]) B B (ah Z Z (Yw Z (O.get 3 Z) Z) Z (ah Z Z (Yw Z (O.bJ hb2d) Z) Z (wQ 1 Z (fC Z Z (Yu Z Z Z) (fun _=>Z) (SQ hG hi6b hT ax (X0:=[(bt,.row us 41 false)]) (fun e he=>by rw[List.mem_singleton.1 he];simp) O) ?_))))));rintro _ V ⟨K7,p2,p3,p4,A,rfl,bE,bF,bM,O⟩;have hi7:=hi6b.mono A fun _ _ h=>h
  have hb2g:=A _ _ hb2d;refine⟨(bx (bC Z Z Z Z Z (Yw Z (O.get 3 Z) Z)<|dF _ _) aY),?_⟩;refine dO Z Z (Yu Z Z Z) (fun _=>Z) (IN hG bF bM hi7.leaf.2 Z bE.leaf.2 hsl hwl O) (fun V O=>?_);refine⟨(bx (bC Z Z Z Z Z (Yw Z (O.get 3 Z) Z)<|dF _ _) aY),?_⟩;refine ah Z Z (Tl Z Z Z Z) Z (ah Z Z (aB (v:=nI (mm init acc+vH init w)) Z Z<|cI<|QW a5) Z<|Uj O Z Z (UM Z Z Z (O.get 3 Z) (m:=1) Z Z (cells':=[_]) Z) Z (fun V O=>?_));refine⟨aY,?_⟩;refine Xg 2 Z<|Xb 2 Z<|XS O 2 [3] Z Z<|Xd 2 Z<|aG Z (fun bR=>?_) (fun bR=>?_)
  ·refine Xb 2 Z<|fM O (.there (.there (.there (.there (.there .here))))) Z (UM Z Z Z (O.get 5 Z) (m:=1) Z Z (cells':=[_]) Z) Z (fun V O=>?_);refine fM O (.there (.there (.there (.there .here)))) Z (UM Z Z Z (O.get 4 Z) (m:=1) Z Z (cells':=[_]) Z) Z (fun V O=>?_);refine Xf 3 Z<|aI (?_);have ci:16385<=mm init (mV k (eD k init l).2 l):=by have h1:=Rb bR;have h2:=EK (init:=init) hp;rw[rG] at h2;unfold mV;omega
   replace O:=O.pull (.there (.there (.there (.there (.there<|bu.here (X:=[_]))))));rw[za_] at O;replace O:=O.pull (.there (.there (.there (.there (.there<|bu.here (X:=[_]))))));rw[za_] at O;replace O:=O.pull (.there (.there (.there (.there (.there<|bu.here (X:=[_]))))));rw[za_] at O;replace O:=O.pull (.there (.there (.there (.there (.there<|bu.here (X:=[_]))))));rw[za_] at O;replace O:=O.pull (.there (.there (.there (.there (.there<|bu.here (X:=[_]))))));rw[za_] at O;replace O:=O.pull (.there (.there (.there (.there (.there<|bu.here (X:=[_]))))));rw[za_] at O;exact⟨K7,_,O,.inr ⟨Z,fun V O=>⟨K7,_,A,O.perm<|List.Perm.swap ..,.inr ⟨Z,ci,_,Z⟩⟩⟩⟩
  refine aH<|aD ?_;replace O:=O.pull (.there (.there (.there (.there (.there<|bu.here (X:=[_]))))));rw[za_] at O;replace O:=O.pull (.there (.there (.there (.there (.there<|bu.here (X:=[_]))))));rw[za_] at O;replace O:=O.pull (.there (.there (.there (.there (.there<|bu.here (X:=[_]))))));rw[za_] at O;replace O:=O.pull (.there (.there (.there (.there (.there<|bu.here (X:=[_]))))));rw[za_] at O;replace O:=O.pull (.there (.there (.there (.there (.there<|bu.here (X:=[_]))))));rw[za_] at O;replace O:=O.pull (.there (.there (.there (.there (.there<|bu.here (X:=[_]))))));rw[za_] at O;have hsm:=TI bR;exact⟨K7,_,O,.inl ⟨Z,fun V O=>⟨K7,_,A,O.perm<|List.Perm.swap ..,.inl ⟨Z,by rw[rG];exact hsm,by rw[rG]⟩⟩⟩⟩
 subst bi;rcases bv with ⟨a5,rfl⟩ | ⟨a5,n6,rfl⟩
 ·refine⟨K6,_,.inl ⟨O,fun V O=>⟨.inl Z,?_⟩⟩⟩;have bl:GD k init l=0:=by unfold GD;rw[bc,Ik a0,show decide (16385<=mm init (mV k (eD k init l).2 l))=false from decide_eq_false (by unfold mV;omega)];rfl
  have hi6c:=hi5.mono C fun _ _ h=>h;have hb2e:=C _ _ hb2c;have hb1e:=C _ _ hb1c
  refine dC<|fJ<|ia ?_;refine af Z<|kb O (Yy (cs:=[.aw])) (fun V b6 O=>?_);refine ae<|dC<|fJ<|fJ<|ia ?_;refine XL 2 Z ?_;have hSL6:=hSL.mono C fun _ _ h=>iW C h
  refine kw (Yu Z Z Z) (Qh hG hSL6.leaf O) ?_;rintro _ V ⟨K8,d5,W,ck,rfl,O⟩;have hSL8:=hSL6.mono W fun _ _ h=>iW W h
  refine ae<|dC ?_;replace O:=O.pull (.there (.there (.there (.there<|bu.here (X:=[_])))));rw[za_] at O;replace O:=O.pull (.there (.there (.there (.there<|bu.here (X:=[_])))));rw[za_] at O;replace O:=O.pull (.there (.there (.there (.there<|bu.here (X:=[_])))));rw[za_] at O;replace O:=O.pull (.there (.there (.there (.there<|bu.here (X:=[_])))));rw[za_] at O;replace O:=O.pull (.there (.there (.there (.there<|bu.here (X:=[_])))));rw[za_] at O;refine yN<|yO O Z B fun c4 cl V O=>?_;obtain⟨c5,bm,O⟩:∃lo,lo=_/\H V K8 ((cl,lo)::_):=⟨_,Z,O⟩;refine(Qg hG hSL8 (by rw[lM_];omega) ck (I:=X3 m init b6 cl c4 c5 ((bp,.mark)::(b5,.row [.int .i64 (.ofNat<|mm init<|jq<|l.map fun c=>mY k c (eD k init l).2)] 53 false)::(b4,.row [iZ] 27 false)::(b3,.row [.aw] 26 false)::L)) (J:=fun _ _=>False) (fun bt K9 acc w us L9 V aa hI hR hw hp O=>?_) (fun K9 aa=>⟨.aw,[],⟨cO.nil,.inr Z⟩,Z⟩) O).mono fun _ V ⟨K9,L9,aa,O,bv⟩=>?_
  ·subst bm;obtain⟨ua,Ma,hA9,rfl⟩:=hI;replace O:=O.perm (List.Perm.swap ..);have hi9b:=hi6c.mono (KP.le_trans W aa) fun _ _ h=>h;have hb2f:=aa _ _ (W _ _ hb2e);have hb1f:=aa _ _ (W _ _ hb1e)
   refine yR O Z ?_;have be:w∈(mV k (eD k init l).2 l):=hp.subset (List.mem_append_right _<|List.mem_singleton.2 Z);have ax:Dc init w=0:=Ax hE be;obtain⟨h6w,h4w,h14w,c3⟩:=xK ax;have hwl:=ID (init:=init) h4w h14w;have hsl:=DL (init:=init) h4w h14w;have hT:=hR.gB (K2:=K9.gw [(bt,.row us 41 false)]) hw (by rw[lM_];omega) (.inr (.head _));refine XK 3 Z ?_;refine⟨Z,K9,_,O,fun V O=>?_⟩;refine aK (aU (l:=[(0,[]),(1,[]),(2,[]),(4,[]),(3,[0,4]),(5,[0]),(6,[]),(7,[])]) B B (ah Z Z (Yw Z (O.get 3 Z) Z) Z (ah Z Z (Yw Z (O.bJ hb2f) Z) Z (wQ 1 Z (ah Z Z (Yw Z (O.bJ hb1f) Z) Z (fC Z Z (Yu Z Z Z) (fun _=>Z) (SQ hG hi9b hT ax (X0:=[(bt,.row us 41 false)]) (fun e he=>by rw[List.mem_singleton.1 he];simp) O) ?_))))));rintro _ V ⟨K7,p2,p3,p4,A,rfl,bE,bF,bM,O⟩;have hi7:=hi9b.mono A fun _ _ h=>h
   have hb2g:=A _ _ hb2f;have hb1g:=A _ _ hb1f;have hT7:=hT.mono (iD A fun _ h=>h) fun _ _ h=>h.mono A
   refine⟨(bx (bC Z Z Z Z Z (Yw Z (O.get 3 Z) Z) (hA9.1.tx (K:=fun _ _=>False)).dV)<|bx (bC Z Z Z Z Z (Yw Z (O.bJ hb1g) Z)<|dF _ _) aY),?_⟩;have c7:nZ (eZ init w) (gR init w)<=16384:=by have h1:=I0 (init:=init) be;unfold vH mV at h1;omega
   replace O:=O.pull (.there (.there (.there (.there (.dz (.there (.there (.there<|bu.here (X:=[_])))))))));rw[za_] at O;replace O:=O.pull (.there (.there (.there (.there (.there (.dz (.there (.there<|bu.here (X:=[_])))))))));rw[za_] at O;replace O:=O.pull (.there (.there (.there (.there (.there (.there (.dz (.there<|bu.here (X:=[_])))))))));rw[za_] at O;replace O:=O.pull (.there (.there (.there (.there (.there (.there (.there (.dz<|bu.here (X:=[_])))))))));rw[za_] at O;replace O:=O.pull (.there (.there (.there (.there (.there (.there (.there (.there<|bu.here (X:=Ma)))))))));replace O:=O.pull (.dz (.there (.there (.there (.there (.there (.there (.there<|bu.here (X:=[_])))))))));rw[za_] at O;replace O:=O.pull (.there (.dz (.there (.there (.there (.there (.there (.there<|bu.here (X:=[_])))))))));rw[za_] at O;replace O:=O.pull (.there (.there (.dz (.there (.there (.there (.there<|bu.here (X:=[_]))))))));rw[za_] at O;replace O:=O.pull (.there (.there (.there (.dz (.there (.there (.there (.there<|bu.here (X:=[_])))))))));rw[za_] at O;refine fC Z Z (Yu Z Z Z) (fun _=>Z) (U8 hG hm hi7 hT7 ax bE bF bM c7 (X0:=[(bt,.row us 41 false)]) O) ?_;rintro d6 V ⟨c8,cn,a9,hA71,O⟩;replace O:H V c8 (cn++((bt,.row us 41 false)::_)):=O;refine⟨(bx (bC Z Z Z Z Z (Yw Z O.cF.pop.pop.pop.g0 Z) (hA9.1.tx (K:=fun _ _=>False)).dV) aY),?_⟩;obtain⟨ba,ao,N,O⟩:=O.bZ (M:=cn);have hs71:=(hA71.1.jN (R':=RG ba) fun _ _ h=>h.mono ao).gB N;have hA9m:=hA9.jN (R':=RG ba) fun _ _ h=>h.mono (KP.le_trans A<|KP.le_trans a9 ao)
   replace O:=O.pull (.there (.there (.there (.there<|bu.here (X:=Ma)))));have bS:(((acc.flatMap<|jk fS init).filter<|iq m)).length+((jk fS init w).filter<|iq m).length<=1048576:=by have h1:=List.length_filter_le (iq m) (acc.flatMap<|jk fS init);have h2:=List.length_filter_le (iq m) (jk fS init w);have h0:=EK (init:=init) hp;rw[rG] at h0;have h3:=vD (init:=init) (ws:=acc) oM;have h4:=Br (init:=init) (w:=w) oM;omega
   refine Uc (R:=RG ba) (m:=4) (e:=34) hA9m O hs71 RG.leaf bS Z Z Z Z Z Z Z Z (fun _=>Z) (fun V c9 co hO72 O=>?_);refine⟨aY,?_⟩;refine fD O (.dz (.there (.there (.there .here)))) Z Z (aL Z Z hO72.1.leaf.1 O.cF.pop.pop.pop.g0 (m:=1) B Z (lb Z) (aj hO72.1.leaf.2 aC) (cells':=[_]) Z) Z (fun V O=>?_);refine⟨aY,?_⟩;refine a8<|aD ?_;replace O:=O.pull (.dz (.there (.there (.there (.there (.there (.there (.there<|bu.here (X:=[_])))))))));rw[za_] at O;replace O:=O.pull (.there (.dz (.there (.there (.there (.there (.there (.there<|bu.here (X:=[_])))))))));rw[za_] at O;replace O:=O.pull (.there (.there (.dz (.there (.there (.there (.there (.there<|bu.here (X:=[_])))))))));rw[za_] at O;replace O:=O.pull (.there (.there (.there (.dz (.there (.there (.there (.there<|bu.here (X:=[_])))))))));rw[za_] at O;replace O:=O.pull (.there (.there (.there (.there<|bu.here (X:=co)))));replace O:=O.pull (.dz (.there (.there (.there (.there (.there (.there (.there<|bu.here (X:=[_])))))))));rw[za_] at O;replace O:=O.pull (.there (.dz (.there (.there (.there (.there (.there (.there<|bu.here (X:=[_])))))))));rw[za_] at O;replace O:=O.pull (.there (.there (.dz (.there (.there (.there (.there<|bu.here (X:=[_]))))))));rw[za_] at O;replace O:=O.pull (.there (.there (.there (.dz (.there (.there (.there (.there<|bu.here (X:=[_])))))))));rw[za_] at O;exact⟨ba,_,O,.inl ⟨Z,fun V O=>⟨ba,_,KP.le_trans A<|KP.le_trans a9 ao,O.perm<|List.Perm.swap ..,.inl ⟨Z,c9,co,by rw[List.flatMap_append,List.filter_append,List.flatMap_singleton];exact hO72,Z⟩⟩⟩⟩
  subst bm;obtain⟨ua,Ma,hA9,rfl⟩:=bv.resolve_right id;refine⟨K9,_,.inl ⟨O,fun V O=>⟨.inl Z,?_⟩⟩⟩;have bY:((((mV k (eD k init l).2 l)).flatMap<|jk fS init).filter<|iq m).length<=1000000:=by have h1:=List.length_filter_le (iq m) (((mV k (eD k init l).2 l)).flatMap<|jk fS init);have h2:=vD (init:=init) a5;unfold mV at h1⊢;omega
  refine dC<|fJ<|ia ?_;refine XR O 2 [1] Z Z ?_;replace O:=O.pull (.there (.there<|bu.here (X:=Ma)));refine kw (Yu Z Z Z) (Q6 (m:=4) (c:=ml) oM (Uy C1) hS.k1 Z RG.leaf hA9.1 hA9.2 O fun σ2 h2 x y vx vy hx hy=>?_) ?_
  ·obtain⟨a1,b1,c1,d1,rfl,hx⟩:=hx;obtain⟨a2,b2,c2,d2,rfl,hy⟩:=hy;exact(Mw hS.p0 hx.ro hy.ro h2).mono fun _ _ h=>h.1
  rintro _ V ⟨rfl,gs,M9,bb,dd,hO9,O⟩;refine ae<|dC<|fJ<|ia ?_;refine af Z<|S Z (Yw Z O.cF.pop.g0 Z) Z<|fM O (.dz (.there (.there (.there (.there (.there .here)))))) Z (aL Z Z hO9.leaf.1 O.cF.pop.pop.pop.pop.pop.g0 (m:=1) B Z (lb Z) (aj hO9.leaf.2 aC) (cells':=[_]) Z) Z (fun V O=>?_);refine fM O (.dz (.there (.there (.there (.there .here))))) Z (UM Z Z Z O.cF.pop.pop.pop.pop.g0 (m:=1) Z Z (cells':=[_]) Z) Z (fun V O=>?_);refine ae<|dC<|ia<|aF ?_;replace O:=O.pull (.dz (.there (.there (.there (.there (.there<|bu.here (X:=[_])))))));rw[za_] at O;replace O:=O.pull (.there (.dz (.there (.there (.there (.there<|bu.here (X:=[_])))))));rw[za_] at O;replace O:=O.pull (.there (.there (.dz (.there (.there (.there<|bu.here (X:=[_])))))));rw[za_] at O;replace O:=O.pull (.there (.there (.there (.dz (.there<|bu.here (X:=[_]))))));rw[za_] at O;replace O:=O.pull (.there (.there (.there (.there<|bu.here (X:=M9)))));replace O:=O.pull (.dz (.there (.there (.there (.there (.there<|bu.here (X:=[_])))))));rw[za_] at O;replace O:=O.pull (.there (.dz (.there (.there (.there (.there<|bu.here (X:=[_])))))));rw[za_] at O;refine⟨.inr Z,vI O fun V O=>vI O fun V O=>?_⟩;have hst9:=O;replace O:=O.sub (fR (.cons _ (.cons _ (.cons _ (.cons _ (.refl _))))));exact ug (jP Z Z Z (hst9.cF.pop.pop.pop.get 0 Z) (hst9.cF.pop.pop.get 0 Z) Z Z) ⟨K9,ua,M9,gs,KP.le_trans F<|KP.le_trans E<|KP.le_trans hle25<|KP.le_trans C<|KP.le_trans W aa,by rw[bl],hO9,.inr ⟨bl,by rw[bb.length_eq];exact bY,bb,dd⟩,O⟩
 have ab:GD k init l=3:=by unfold GD;rw[bc,Ik a0,show decide (16385<=mm init (mV k (eD k init l).2 l))=true from decide_eq_true a5];rfl
 exact⟨K6,_,.inr ⟨O,fun V O=>⟨.inr Z,oS ⟨.inr Z,vI O fun V O=>ug (jP Z Z Z (O.get 2 Z) O.g1 Z Z) ⟨K6,.aw,[],[],KP.le_trans F<|KP.le_trans E<|KP.le_trans hle25 C,by rw[ab],cO.nil,.inl ⟨by rw[ab];decide,Z⟩,O.pop.pop.pop⟩⟩⟩⟩⟩
theorem UG (N:Plain G):∀(k:Nat) (x:XE) (vs:List Y),kV K k x vs->∀(left:Int) (V:D) (L:Own),H V K L->Ca G K L 104 [.agg vs,.int .i64 left] V (.int .i64<|E9 k x left):=by
 intro k;induction k with
 | zero=>intro x vs h;cases x;exact h.elim
 | succ k ih=>
 intro x vs h left V L O;obtain⟨op,num,name,kids⟩:=x;obtain⟨v,rfl,hk⟩:=h;refine XD N Tryz.func104 Z<|Xb 2 Z<|kb O (cL Z Z) (fun V b1 O=>?_);refine Wu O 9 [2,0] Z Z<|S Z (mW Z Z Z B Z) Z<|Wn 11 Z<|aK ?_;obtain⟨LL1,O,hLL1⟩:=O.named;refine bq ([1,5]++rg 13 18) (fun j t V=>∃(i:Nat) (m:Int),j+i=kids.length/\wP (E9 k) kids (SY name left)=wP (E9 k) (kids.drop i) m/\t.get 1=some (.int .i64 m)/\t.get 5=some (nI i)/\H V K LL1) (kids.length) ⟨0,_,Z,Z,Z,Z,O⟩ ?_;clear O;intro Q t V ar R;obtain⟨i,m,hj,hh,I,M,O⟩:=R;subst hLL1;obtain⟨oo,rfl⟩:=ar.q2 I M Z;refine Wt O 6 [3,0] Z Z<|S Z (Yx hk Z Z Z (e:=75) Z) Z<|vQ 1 Z<|ky Z (an Z) (fun C=>?_) (fun C=>?_)
 ·refine Xd 5 Z<|aG Z (fun E=>?_) (fun E=>?_)
  ·refine Wj 3 Z<|aK<|XR O 4 [3,0] Z Z ?_;obtain⟨ao,u,aa⟩:=dh C;refine Yp (e:=75) (m:=4) hk u Z Z Z Z (fun ap ab F ac A=>?_);obtain⟨aq,ax,aE,a0,rfl,am⟩:=A.shape;refine S Z (YA O F Z Z) Z<|vQ 1 Z<|kx (Yu Z Z Z) (ih _ _ A _ _ _ O) (fun V O=>?_);refine XO 2 Z<|aD<|XK 5 Z<|aJ ⟨Q-1,by omega,oF,i+1,_,by omega,hh.trans<|Hp u<|eb E,Z,cI<|a6 (by have:=hk.cQ;omega),O⟩
  refine Wl 3 Z<|aQ<|XN 7 Z ?_;exact az Z Z ⟨cJ (by rw[Lh<|dg E] at hh;rw[<-hh];rfl),O.pop⟩
 refine Ws 8 Z<|aV<|aQ<|XN 7 Z ?_;exact az Z Z ⟨cJ (by rw[Lj<|bI C] at hh;rw[<-hh];rfl),O.pop⟩
theorem Sp (u:Plain G) {k:Nat} {x:XE} (O:H V K L) (h:kV K k x vs) (most:Int):Ca G K L 69 [.agg vs,.int .i64 most] V <| .bool (Hx k x most):=by
 obtain⟨o0,n0,s0,v0,rfl,hk⟩:=h.shape;refine XD u Tryz.func69 Z<|Xb 2 Z<|kb O (cL Z Z) (fun V b1 O=>?_);refine Wo 5 Z<|S Z (YF Z O.g0 Z) Z<|vQ 1 Z<|kx (Yu Z Z Z) (UG u _ _ _ h _ _ _ O) (fun V O=>?_);refine Xf 5 Z ?_;exact az Z Z ⟨Z,O.pop⟩
theorem Gd (hG:Plain G) {k:Nat} {x:XC} (O:H V K L) (h:sg K k x vs) (most:Int):Ca G K L 30 [.agg vs,.int .i64 most] V <| .bool (tz k most x):=by
 have h':=h;obtain⟨v0,rfl,hk⟩:=h';refine XD hG Tryz.func30 Z<|Xb 2 Z<|kb O (cL Z Z) (fun V b1 O=>?_);refine VF O 8 [1,0] Z Z<|S Z (Yx hk Z Z Z (e:=78) Z) Z<|Xd 4 Z<|aG Z (fun A=>?_) (fun A=>?_)
 ·refine Xc 7 Z ?_;exact az Z Z ⟨cB (by unfold tz;rw[A];rfl),O.pop⟩
 refine Wj 8 Z<|aK ?_;obtain⟨LL1,O,hLL1⟩:=O.named;refine bq ([4,5,6]++rg 12 37) (fun j t V=>∃(i:Nat),j+i=x.ins.length/\(x.ins.take i).all (zB k)=true/\t.get 5=some (nI i)/\H V K LL1) (x.ins.length) ⟨0,Z,Z,Z,O⟩ ?_;clear O;intro j4 t V ar hI;obtain⟨i,hj,ha,a1,O⟩:=hI;subst hLL1;obtain⟨oo,rfl⟩:=ar.q1 a1 Z;refine Wt O 6 [1,0] Z Z<|S Z (Yx hk Z Z Z (e:=78) Z) Z<|Xd 3 Z<|aG Z (fun M=>?_) (fun M=>?_)
 ·refine Wj 3 Z<|aK<|Wt O 6 [1,0] Z Z ?_;obtain⟨N,u,a3⟩:=dh M;refine Yp (e:=78) (m:=6) hk u Z Z Z Z (fun bi a4 T a5 W=>?_);have hr22':=W;obtain⟨bl,rfl,F⟩:=hr22';refine bU T Z Z Z (k:=5) B (lb Z) (fun _=>Z) (fun bm X=>?_);refine S Z (Yz O X Z Z) Z<|S Z (Yx F Z Z Z (e:=75) Z) Z<|Xd 3 Z<|aG Z (fun E=>?_) (fun E=>?_)
  ·refine XN 6 Z<|aA<|aI<|aA<|bP<|aI<|aA (?_);exact az Z Z ⟨cB (by unfold tz;rw[A,mb u (by unfold zB;rw[E];rfl)];rfl),O.pop⟩
  refine Wk 5 Z<|Wm 3 Z ?_;obtain⟨LL2,O,hLL2⟩:=O.named;refine bq ([4,6]++rg 27 22) (fun j t V=>∃(i2:Nat),j+i2=N.exprs.length/\(N.exprs.take i2).all (fun e=>Hx k e 60)=true/\t.get 6=some (nI i2)/\H V K LL2) (N.exprs.length) ⟨0,Z,Z,Z,O⟩ ?_;clear O;intro j9 t V ar hI;obtain⟨i2,bo,aa,a2,O⟩:=hI;subst hLL2;obtain⟨oo,rfl⟩:=ar.q1 a2 Z;refine Wt O 7 [1,0] Z Z<|Yp (e:=78) (m:=6) hk u Z Z Z Z (fun bp a9 ab ba ac=>?_);have hr31':=ac;obtain⟨bs,rfl,am⟩:=hr31';refine bU ab Z Z Z (k:=5) B (lb Z) (fun _=>Z) (fun bt ao=>?_);refine S Z (Yz O ao Z Z) Z<|S Z (Yx am Z Z Z (e:=75) Z) Z<|Xd 3 Z<|aG Z (fun Q=>?_) (fun Q=>?_)
  ·refine UY 6 Z<|XS O 3 [1,0] Z Z<|Yp (e:=78) (m:=6) hk u Z Z Z Z (fun bv bb ap bc aq=>?_);have hr41':=aq;obtain⟨bw,rfl,ax⟩:=hr41';refine bU ap Z Z Z (k:=5) B (lb Z) (fun _=>Z) (fun bE aE=>?_);refine S Z (Yz O aE Z Z) Z<|vQ 1 Z ?_;obtain⟨bF,C,bd⟩:=dh Q;refine Yp (e:=75) (m:=4) ax C Z Z Z Z (fun bM be a0 bf I=>?_);obtain⟨bR,bS,bY,b0,rfl,bg⟩:=I.shape;refine S Z (YA O a0 Z Z) Z<|kx (Yu Z Z Z) (Sp hG O I _) (fun V O=>?_);refine S Z (ek Z) Z<|Xd 2 Z<|aG Z (fun R=>?_) (fun R=>?_)
   ·refine XN 6 Z<|aI<|aA<|bP<|aI<|aI<|aA<|bP<|aI<|aA (?_);exact az Z Z ⟨cB (by unfold tz;rw[A,mb u (by unfold zB;rw[E,mb C (by simpa using R)];rfl)];rfl),O.pop⟩
   refine aH<|aD<|XK 5 Z<|aJ ⟨j9-1,by omega,oF,i2+1,by omega,iO aa C (by simpa using R),cI<|a6 (by have:=F.cQ;omega),O⟩
  refine Wl 3 Z<|aQ<|aD<|XK 5 Z<|aJ ⟨j4-1,by omega,oF,i+1,by omega,iO ha u (by unfold zB;rw[E,fH aa<|bI Q];rfl),cI<|a6 (by have:=hk.cQ;omega),O⟩
 refine Wl 3 Z<|aQ<|XN 6 Z ?_;exact az Z Z ⟨cB (by unfold tz;rw[A,fH ha<|bI M];rfl),O.pop⟩
theorem DU (Q:Plain G) {k:Nat} {l:List XC} {v:Y} (O:H V K L) (h:bG K 2 (sg K k) l v) (most:Int):Ca G K L 12 [v,.int .i64 most] V <| .bool (xP k most l):=by
 refine XD Q Tryz.func12 Z<|Xa 11 Z<|aK ?_;obtain⟨LL1,O,hLL1⟩:=O.named;refine bq (rg 4 19) (fun j t V=>∃(i:Nat),j+i=l.length/\(l.take i).all (tz k most)=true/\t.get 5=some (nI i)/\H V K LL1) (l.length) ⟨0,Z,Z,Z,O⟩ ?_;clear O;intro R t V ar T;obtain⟨i,hj,M,N,O⟩:=T;subst hLL1;obtain⟨oo,rfl⟩:=ar.q1 N Z;refine Wi 5 Z<|S Z (Yx h Z Z Z (e:=49) Z) Z<|vQ 1 Z<|ky Z (an Z) (fun C=>?_) (fun C=>?_)
 ·refine Xd 5 Z<|aG Z (fun E=>?_) (fun E=>?_)
  ·refine UY 8 Z ?_;obtain⟨ao,u,aa⟩:=dh C;refine Yp (e:=49) (m:=2) h u Z Z Z Z (fun ap ab I ac A=>?_);have hr18':=A;obtain⟨aq,rfl,am⟩:=hr18';refine S Z (YA O I Z Z) Z<|vQ 1 Z<|kx (Yu Z Z Z) (Gd Q O A _) (fun V O=>?_);refine S Z (ek Z) Z<|Xd 2 Z<|aG Z (fun F=>?_) (fun F=>?_)
   ·refine XN 6 Z<|aI<|aA<|bP<|aI<|aA (?_);exact az Z Z ⟨cB (by unfold xP;rw[Qz u (aS E) (by simpa using F)];rfl),O⟩
   refine aH<|aD<|XK 5 Z<|aJ ⟨R-1,by omega,oF,i+1,by omega,iO M u (by simpa using F),cI<|a6 (by have:=h.cQ;omega),O⟩
  refine Wl 3 Z<|aQ<|Xb 3 Z<|S Z (Yx h Z Z Z (e:=49) Z) Z<|Xf 5 Z ?_;exact az Z Z ⟨cB (by unfold xP;rw[Ej M<|bI E];rfl),O⟩
 refine Ws 8 Z<|aV<|aQ<|Xb 3 Z<|S Z (Yx h Z Z Z (e:=49) Z) Z<|Xf 5 Z ?_;exact az Z Z ⟨cB (by unfold xP;rw[fH (i:=i) (by rw[List.take_take];exact Ej M<|Nat.min_le_left _ _) (by rw[lT_];have:=bI C;omega)];rfl),O⟩
variable {S_:Rn}
section
variable {g:XG}
theorem Tc.lift {n:Nat} {R:Rn} (u:∀i j,i<n->j<n->R i j=true->Tc n S_ i j) {i:Nat} (h:Tc n R i j):Tc n S_ i j:=by
 induction h with
 | one hi hj h=>exact u _ _ hi hj h
 | step _ _ h1 A=>exact .step h1 A
theorem Ua {l:List Rn} {R:Rn} (h:R∈l) {i:Nat} (u:R i j=true):nu l i j=true:=List.any_eq_true.2 ⟨R,h,u⟩
theorem Js {l:List Rn} {i:Nat} (h:nu l i j=true):∃R∈l,R i j=true:=List.any_eq_true.1 h
theorem vA {R:Rn} (hm:R∈[nO g,vp g,xJ g,AF g]) {i:Nat} (hi:i<nV g) (hj:j<nV g) (h:R i j=true):Tc (nV g) (vz g) i j:=.one hi hj (Ua hm h)
theorem IM {l:List Rn} (hl:∀R∈l,R∈[nO g,vp g,xJ g,AF g]) {i:Nat} (h:Tc (nV g) (nu l) i j):Tc (nV g) (vz g) i j:=
 h.lift fun _ _ hi hj h=>by obtain⟨R,hm,u⟩:=Js h;exact vA (hl R hm) hi hj u
theorem VV {w k:Nat} (hw:w<nV g) (h:Sq g w k):k<nV g/\∀b,b<nV g->vp g k b=true->Tc (nV g) (vz g) w b:=by
 induction h with
 | base=>exact⟨hw,fun b hb u=>vA (by simp) hw hb u⟩
 | step hi _ hf _ ih=>
  refine⟨hi,fun b hb u=>.step (ih.2 _ hi ?_) (vA (by simp) hi hb u)⟩;unfold vp;rw[hf];exact kY _
theorem VX (C:eE g) {r a:Nat} (h:xX g r a=true):Tc (nV g) (vz g) r a:=by
 obtain⟨w,b,hw,hb,E,F,cw,cb,cr,ca⟩:=J0.1 h
 have A:Tc (nV g) (vz g) w b:=by
  unfold ot at cb;cases h1:dq (fc g b) with
  | false=>rw[h1] at cb;cases cb
  | true=>
  rw[h1] at cb;cases u:bD (fc g b).order 1 with
  | true=>rw[u] at cb;cases cb
  | false=>
  rw[u] at cb;obtain⟨f,hf,he,_⟩:=lN C hb h1;rw[he] at cb;refine(VV hw<|Aj.1 cb).2 b hb ?_;unfold vp;rw[he];exact kY _
 have h1:r=w∨nO g r w=true:=by
  unfold mr at cr;cases h1:uJ g r with
  | false=>rw[h1] at cr;cases cr
  | true=>
  rw[h1] at cr;cases u:bD (.ofNat r) (.ofNat w) with
  | true=>rw[gd] at u;exact .inl<|of_decide_eq_true u
  | false=>
  rw[u] at cr;cases h3:bD (fc g r).kind 4 with
  | false=>rw[h3] at cr;cases cr
  | true=>rw[h3] at cr;exact .inr cr
 have u:a=b∨nO g b a=true:=by
  unfold By at ca;cases h1:xr g a with
  | false=>rw[h1] at ca;cases ca
  | true=>
  rw[h1] at ca;cases u:bD (.ofNat a) (.ofNat b) with
  | true=>rw[gd] at u;exact .inl<|of_decide_eq_true u
  | false=>
  rw[u] at ca;cases h3:bD (fc g a).kind 4 with
  | false=>rw[h3] at ca;cases ca
  | true=>rw[h3] at ca;exact .inr ca
 have h3:Tc (nV g) (vz g) r b:=by
  rcases h1 with rfl | h
  ·exact A
  exact .step (vA (by simp) E hw h) A
 rcases u with rfl | h
 ·exact h3
 exact .step h3<|vA (by simp) hb F h
theorem SX (A:eE g) {i:Nat} (h:Lf g i j=true):Tc (nV g) (vz g) i j:=
 (jS.1 h).lift fun _ _ hi hj h=>by
  obtain⟨R,hm,u⟩:=Js h;simp only[mQ_,List.not_mem_nil,or_false] at hm;rcases hm with rfl | rfl
  ·exact vA (by simp) hi hj u
  exact VX A u
theorem z8 {n:Nat} {R:Rn}:bT (cW (q7 n R) 0)=true↔∃i,i<n/\oX n R i i=true:=by
 unfold q7;rw[oB];simp[bT]
theorem KE (h:iq 1 g=true):iq 2 g=true:=by
 have h1:bD (eu g) 0=true/\fW g 2=false/\fW g 6=false:=by
  have h0:bT (Bf 1 g)=true:=h;unfold Bf at h0;cases hc:bD (eu g) 0 with
  | false=>rw[hc] at h0;cases h0
  | true=>
   rw[hc] at h0;have h0:bT ([(1:Int),2,6].any<|fW g)=true:=h0;simp only[List.any_cons,List.any_nil,Bool.or_false] at h0;cases E:fW g 2 with
   | true=>rw[E] at h0;cases h3:fW g 1<;>rw[h3] at h0<;>cases h0
   | false=>
   cases C:fW g 6 with
   | true=>rw[E,C] at h0;cases h3:fW g 1<;>rw[h3] at h0<;>cases h0
   | false=>exact⟨Z,Z,Z⟩
 obtain⟨hc,E,C⟩:=h1;have F:eE g:=hJ.1 (by rw[dS] at hc;exact of_decide_eq_true hc)
 have A:∀i,¬Tc (nV g) (vz g) i i:=fun i hi=>by
  have C:bT (cW (q7 (nV g)<|vz g) 0)=false:=C;rw[z8.2 ⟨i,hi.lt.1,jS.2 hi⟩] at C;cases C
 have h3:fW g 3=false:=by
  cases hb:fW g 3 with
  | false=>rfl
  | true=>
   obtain⟨i,_,hi⟩:=z8.1 (show bT (cW (q7 (nV g)<|Cm g) 0)=true from hb)
   exact absurd (jS.1 hi) fun h=>by
    have h:Tc (nV g) (Cm g) i i:=h;exact A i<|h.lift fun a b _ _ u=>IM (l:=[nO g,vp g]) (by simp) (jS.1 u)
 have G:fW g 4=false:=by
  cases hb:fW g 4 with
  | false=>rfl
  | true=>
   obtain⟨i,_,hi⟩:=z8.1 (show bT (cW (q7 (nV g)<|Lf g) 0)=true from hb);exact absurd (jS.1 hi) fun h=>A i (h.lift fun a b _ _ u=>SX F u)
 have h5:fW g 5=false:=by
  cases hb:fW g 5 with
  | false=>rfl
  | true=>
   obtain⟨⟨a,b⟩,hm,_⟩:=List.any_eq_true.1 (show GV g=true from hb);obtain⟨_,_,u⟩:=l6.1 hm;have u:(Lf g a b && KG g b a)=true:=u;rw[bA_] at u;exact absurd (Tc.step (SX F u.1)<|IM (l:=[vp g,xJ g,AF g]) (by simp)<|jS.1 u.2)<|A a
 show bT (Bf 2 g)=true;have:Bf 2 g=bif bD (eu g) 0 then([1,2,3,4,5]:List Int).any (fW g) else true:=rfl;rw[this,hc];simp only[cond_true,List.any_cons,List.any_nil,E,h3,G,h5];rfl
end
theorem Be {a b C:List XG} {p q:XG->Bool} (u:∀x,p x=true->q x=true) (E:a.Perm (C.filter p)) (hb:b.Perm (C.filter q))
  (sa:a.Pairwise fun x y=>decide (ml y x<0)=false) (sb:b.Pairwise fun x y=>decide (ml y x<0)=false):a=b.filter p:=by
 have h1:(b.filter p).Perm (C.filter p):=by
  refine(hb.filter p).trans (List.Perm.of_eq ?_);rw[List.filter_filter];exact List.filter_congr fun x _=>by cases h:p x with | false=>rfl | true=>rw[u x h];rfl
 refine List.Perm.eq_of_pairwise (le:=fun x y=>decide (ml y x<0)=false) (fun x y _ _ h1 A=>?_) sa (sb.filter p)<|E.trans h1.symm;have h1:¬ml y x<0:=of_decide_eq_false h1;have A:¬ml x y<0:=of_decide_eq_false A;have h4:=(C1.neg x y trivial trivial);have h5:¬0<ml y x:=fun e=>A (h4.2 e)
 exact((C1.zero y x trivial trivial).1 oM).symm
theorem Iy {a b C:List XG} {p q:XG->Bool} (u:∀x,p x=true->q x=true) (A:a.Perm (C.filter p)) (hb:b.Perm (C.filter q))
  (sa:a.Pairwise fun x y=>decide (ml y x<0)=false) (sb:b.Pairwise fun x y=>decide (ml y x<0)=false):a.Sublist b:=by
 rw[Be u A hb sa sb];exact List.filter_sublist
section
variable {α:Type} {a b:List α} {i k:Nat} {x y:α}
theorem Py {α:Type} {x y:α} {l m:List α} (h:(x::l).Sublist (y::m)) (hne:x≠y):(x::l).Sublist m:=by
 cases h with
 | cons _ h=>exact h
 | cons_cons _ h=>exact absurd Z hne
theorem L4 (h:(a.drop i).Sublist (b.drop k)) (hx:a[i]? =some x) (hy:b[k]? =some y) (hne:x≠y):(a.drop i).Sublist (b.drop (k+1)):=by
 obtain⟨hi,rfl⟩:=gA.1 hx;obtain⟨hk,rfl⟩:=gA.1 hy;rw[zj_ hi,zj_ hk] at h;rw[zj_ hi];exact Py h hne
theorem FW (h:(a.drop i).Sublist (b.drop k)):(a.drop (i+1)).Sublist (b.drop k):=by
 refine List.Sublist.trans ?_ h;rw[<-zl_];exact List.drop_sublist ..
theorem DH (h:(a.drop i).Sublist (b.drop k)) (hi:i<a.length):k<b.length:=by
 have:=h.length_le;rw[lD_,lD_] at this;omega
end
theorem oz {α β:Type} {f:α->List β} {c:Nat}:∀{l:List α},(∀x∈l,(f x).length<=c)->(l.flatMap f).length<=l.length*c
 | [],_=>Nat.zero_le _
 | x::l,h=>by
  rw[List.flatMap_cons,lA_,zc_,Nat.succ_mul];have h1:=h x (.head _);have h2:=oz (l:=l) fun y hy=>h y (.tail _ hy)
  omega
theorem KV {g:XG} (h:eu g=0):l8 g:=by
 obtain⟨C,b2,A,E,b5,F,b7⟩:=lI h;have h1:=oz (f:=fun r:List bW=>r.flatMap bW.ints) (l:=g.threads) (c:=14*5) fun r u=>Nat.le_trans (oz (c:=5) fun e _=>nR_ _) (nM_ _<|A r u)
 have h2:=oz (f:=eI) (l:=g.from_) (c:=1+14*2) fun r u=>by rw[uf];have:=Ad F E A r u;omega
 have h3:=oz (f:=eI) (l:=g.order) (c:=1+56*2) fun r u=>by rw[uf];have:=oE h r u;omega
 refine⟨?_⟩;have k1:=nM_ (14*5) C;have k2:=nM_ (1+14*2) (show g.from_.length<=4 by omega);have k3:=nM_ (1+56*2) (show g.order.length<=6 by omega);omega
theorem EL {m:Int} (hm:m=1∨m=2) {C a:List XG} (u:a.Perm (C.filter<|iq m)):∀g∈a,l8 g:=fun g A=>KV (cons_right hm (List.mem_filter.1<|u.subset A).2)
theorem MS {k:Nat} {init:List Int} {l:List XC} {a b:List XG} (A:Tn 1 k init l a) (hb:Tn 2 k init l b):a.Sublist b/\(∀g∈a,l8 g)/\∀g∈b,l8 g:=by
 rcases A with ⟨h1,rfl⟩ | ⟨h1,_,pa,sa⟩
 ·rcases hb with ⟨_,rfl⟩ | ⟨u,_⟩
  ·exact⟨List.Sublist.refl _,(fun g h=>by cases h),fun g h=>by cases h⟩
  exact absurd u h1
 rcases hb with ⟨u,_⟩ | ⟨_,_,pb,sb⟩
 ·exact absurd h1 u
 exact⟨Iy (fun _=>KE) pa pb sa sb,EL (.inl Z) pa,EL (.inr Z) pb⟩
theorem V4 (hG:Plain G) {k:Nat} {l:List XC} (hl:bG K 2 (sg K k) l lv) (q:Int) (O:H V K L):
  EC G 13 [lv,.int .i64 q] V fun v V'=>∃b,v= .bool b/\H V' K L:=by
 refine XD hG Tryz.func13 Z<|Xa 16 Z<|aK ?_;obtain⟨LL1,O,hLL1⟩:=O.named;refine bq (rg 5 52) (fun j t V=>∃(i:Nat) (m:Int),j+i=l.length/\t.get 5=some (.int .i64 m)/\t.get 6=some (nI i)/\H V K LL1) (l.length) ⟨0,0,Z,Z,Z,O⟩ ?_;clear O;intro j3 t V ar hI;obtain⟨i,m,bE,I,a3,O⟩:=hI;subst hLL1;obtain⟨oo,rfl⟩:=ar.q2 I a3 Z;refine Wi 5 Z<|S Z (Yx hl Z Z Z (e:=49) Z) Z<|vQ 1 Z<|ky Z (an Z) (fun E=>?_) (fun E=>?_)
 ·refine Xd 5 Z<|aG Z (fun a4=>?_) (fun a4=>?_)
  ·refine UY 6 Z ?_;obtain⟨N,A,bc⟩:=dh E;refine Wm 4 Z ?_;obtain⟨LL2,O,hLL2⟩:=O.named;refine bq ([5,7]++rg 18 39) (fun j t V=>∃(M:Nat) (m2:Int),j+M=N.ins.length/\t.get 5=some (.int .i64 m2)/\t.get 7=some (nI M)/\H V K LL2) (N.ins.length) ⟨0,m,Z,Z,Z,O⟩ ?_;clear O;intro j6 t V ar hI;obtain⟨M,m2,bF,I,a5,O⟩:=hI;subst hLL2;obtain⟨oo,rfl⟩:=ar.q2 I a5 Z;refine Wi 6 Z<|Yp (e:=49) (m:=2) hl A Z Z Z Z (fun bM bd Q be R=>?_);have hr21':=R;obtain⟨bR,rfl,u⟩:=hr21';refine bU Q Z Z Z (k:=1) B (lb Z) (fun _=>Z) (fun bS T=>?_);refine S Z (Yz O T Z Z) Z<|S Z (Yx u Z Z Z (e:=78) Z) Z<|vQ 1 Z<|ky Z (an Z) (fun C=>?_) (fun C=>?_)
   ·refine Xd 6 Z<|aG Z (fun a9=>?_) (fun a9=>?_)
    ·refine UY 8 Z<|Yp (e:=49) (m:=2) hl A Z Z Z Z (fun bY bf W bg X=>?_);have hr35':=X;obtain⟨b0,rfl,aa⟩:=hr35';refine bU W Z Z Z (k:=1) B (lb Z) (fun _=>Z) (fun b1 ab=>?_);refine S Z (Yz O ab Z Z) Z<|vQ 1 Z ?_;obtain⟨b2,F,bi⟩:=dh C;refine Yp (e:=78) (m:=6) aa F Z Z Z Z (fun b3 bl ac bm am=>?_);have hr39':=am;obtain⟨b4,rfl,bo⟩:=hr39';refine bU ac Z Z Z (k:=0) B (lb Z) (fun _=>Z) (fun b5 ao=>?_);refine S Z (Yz O ao Z Z) Z<|vQ 1 Z<|ky Z (an Z) (fun ba=>?_) (fun ba=>?_)
     ·refine XP 2 Z<|Yp (e:=49) (m:=2) hl A Z Z Z Z (fun b6 bp ap bs aq=>?_);have hr46':=aq;obtain⟨b7,rfl,ax⟩:=hr46';refine bU ap Z Z Z (k:=1) B (lb Z) (fun _=>Z) (fun b8 aE=>?_);refine S Z (Yz O aE Z Z) Z<|vQ 1 Z<|Yp (e:=78) (m:=6) ax F Z Z Z Z (fun b9 bt a0 bv a1=>?_);have hr50':=a1;obtain⟨ca,rfl,bw⟩:=hr50';refine bU a0 Z Z Z (k:=0) B (lb Z) (fun _=>Z) (fun cb a2=>?_);refine S Z (Yz O a2 Z Z) Z<|Xd 4 Z<|aG Z (fun bb=>?_) (fun bb=>?_)
      ·refine XK 5 Z (aD (XK 5 Z (aJ ⟨j6-1,by omega,oF,M+1,_,by have:=aS C;omega,Z,cI<|a6 (by have:=u.cQ;omega),O⟩)))
      refine aH (aD (XK 5 Z (aJ ⟨j6-1,by omega,oF,M+1,_,by have:=aS C;omega,Z,cI<|a6 (by have:=u.cQ;omega),O⟩)))
     refine Wp 16 Z (XK 5 Z (aJ ⟨j6-1,by omega,oF,M+1,_,by have:=aS C;omega,Z,cI<|a6 (by have:=u.cQ;omega),O⟩))
    refine Wl 3 Z (aQ (aD (XK 5 Z (aJ ⟨j3-1,by omega,oF,i+1,_,by have:=aS E;omega,Z,cI<|a6 (by have:=hl.cQ;omega),O⟩))))
   refine Ws 9 Z (aV (aQ (aD (XK 5 Z (aJ ⟨j3-1,by omega,oF,i+1,_,by have:=aS E;omega,Z,cI<|a6 (by have:=hl.cQ;omega),O⟩)))))
  refine Wl 3 Z<|aQ<|XN 9 Z ?_;exact az Z Z ⟨_,Z,O⟩
 refine Ws 8 Z<|aV<|aQ<|XN 9 Z ?_;exact az Z Z ⟨_,Z,O⟩
theorem PM (u:Plain G) {k:Nat} {l:List XC} (hl:bG K 2 (sg K k) l lv) (O:H V K L):
  EC G 5 [lv] V fun v V'=>∃b,v= .bool b/\H V' K L:=by
 refine XD u Tryz.func5 Z<|Xb 8 Z<|kx (Yu Z Z Z) (DU u O hl _) (fun V O=>?_);refine ky Z (an Z) (fun h5=>?_) (fun h5=>?_)
 ·refine vQ 1 Z<|kw (Yu Z Z Z) (V4 u hl _ O) ?_;rintro _ V ⟨b7,rfl,O⟩;refine Xf 5 Z ?_;exact az Z Z ⟨_,Z,O⟩
 refine Xf 7 Z ?_;exact az Z Z ⟨_,Z,O⟩
theorem Bd {G:Cx} (hS:MQ G G0) (ap:G.PB 4 []=some (.bool true)) (aq:sf G K) (aa:∀V L,H V K L->kB G.gl V G.laid=true) {k:Nat} {init:List Int} (hi:bG K 1 dB init vi) {l:List XC} (hl:bG K 2 (sg K k) l lv) (O:H V K L):
  EC G 3 [vi,lv] V fun v V'=>v= .bool true:=by
 have hG:=hS.p;refine XD hG Tryz.func3 Z<|Wi 8 Z<|kx (Yu Z Z Z) (Nz (v:=.bool true) (hG.h1 _ _ _ Z) ap Z Z (aa _ _ O) ⟨Z,O⟩) (fun V O=>?_);refine S Z (ek Z) Z<|Xd 3 Z<|VD 6 Z<|kw (Yu Z Z Z) (PM hG hl O) ?_;rintro _ V ⟨bS,rfl,O⟩;refine S Z (ek Z) Z<|ky Z (an Z) (fun bc=>?_) (fun bc=>?_)
 ·refine Wq 14 Z ?_;exact az Z Z Z
 refine vQ 1 Z<|S Z (Yx hi Z Z Z (e:=2) Z) Z<|Xd 4 Z<|aG Z (fun bd=>?_) (fun bd=>?_)
 ·refine Xc 7 Z ?_;exact az Z Z Z
 refine Wk 6 Z<|kw (Yu Z Z Z) (Qc hS aq (m:=1) (.inl Z) hi hl O) ?_;rintro _ V ⟨K1,ua,Ma,a,ax,rfl,be,bf,O⟩;obtain⟨K2,W,C,O⟩:=O.bZ (M:=Ma);have ab:bG K2 4 (RG K2) a ua:=(be.jN fun _ _ h=>h.mono W).gB C;clear C;have hle12:=KP.le_trans ax W;have hi2:=hi.mono hle12 fun _ _ h=>h;have hl2:=hl.mono hle12 fun _ _ h=>h.mono hle12;have hgl2:=aq.mono hle12
 refine Wo 11 Z<|kw (Yu Z Z Z) (Qc hS hgl2 (m:=2) (.inr Z) hi2 hl2 O) ?_;rintro _ V ⟨K3,ub,Mb,b,X,rfl,bg,bi,O⟩;obtain⟨K4,E,C,O⟩:=O.bZ (M:=Mb);have F:bG K4 4 (RG K4) b ub:=(bg.jN fun _ _ h=>h.mono E).gB C;clear C;have hsa4:=ab.mono (KP.le_trans X E) fun _ _ h=>h.mono (KP.le_trans X E)
 obtain⟨aE,bl,bm⟩:=MS bf bi;refine Wn 15 Z<|aG Z (fun a0=>?_) (fun a0=>?_)
 ·exact absurd a0 (by show¬(bif bD (GD k init l) (GD k init l) then false else true)=true;rw[kY];decide)
 refine Wj 13 Z<|aK ?_;obtain⟨LL1,O,hLL1⟩:=O.named;refine bq ([4,9,10]++rg 36 28) (fun j t V=>∃(i kk:Nat),j+i=a.length/\(a.drop i).Sublist (b.drop kk)/\t.get 9=some (nI kk)/\t.get 10=some (nI i)/\H V K4 LL1) (a.length) ⟨0,0,Z,aE,Z,Z,O⟩ ?_;clear O;intro a1 t V ar hI;obtain⟨i,kk,bs,I,ac,a2,O⟩:=hI;subst hLL1;obtain⟨oo,rfl⟩:=ar.q2 ac a2 Z;refine Wi 5 Z<|S Z (Yx hsa4 Z Z Z (e:=34) Z) Z<|Xd 3 Z<|aG Z (fun u=>?_) (fun u=>?_)
 ·refine Wj 3 Z<|aK<|ai<|aK ?_;obtain⟨LL2,O,hLL2⟩:=O.named;refine bq ([9]++rg 42 18) (fun j t V=>∃(k2:Nat),j+k2=b.length/\(a.drop i).Sublist (b.drop k2)/\t.get 9=some (nI k2)/\H V K4 LL2) (b.length-kk) ⟨kk,(by have:=DH I (aS u);omega),I,Z,O⟩ ?_;clear O;intro bo t V ar hI;obtain⟨k2,bt,A,ac,O⟩:=hI;subst hLL2;obtain⟨oo,rfl⟩:=ar.q1 ac Z;refine ai<|ai<|aU (l:=zp [0,1,2,3,4,5,6,7,8,9,10,11,12,13,14,15]) B B<|XQ 2 Z<|ah Z Z (Yx F Z Z Z (e:=34) Z) Z<|wQ 1 Z<|gO Z Z (an Z) (fun _=>Z) (fun N=>?_) (fun N=>?_)
  ·refine XQ 2 Z ?_;obtain⟨bp,Q,bv⟩:=dh u;refine Yq (e:=34) (m:=4) hsa4 Q Z Z Z Z Z (fun bY bw a3 bE a4=>?_);have hr49':=a4;obtain⟨b0,b1,b2,b3,rfl,a5⟩:=hr49';refine ah Z Z (YA O a3 Z Z) Z<|XQ 2 Z ?_;obtain⟨am,R,bF⟩:=dh N;refine Yq (e:=34) (m:=4) F R Z Z Z Z Z (fun b4 bM a9 bR ba=>?_);have hr53':=ba;obtain⟨b5,b6,b7,b8,rfl,bb⟩:=hr53';refine ah Z Z (YA O a9 Z Z) Z<|dO Z Z (Yu Z Z Z) (fun _=>Z) (R0 hG a5 bb (bl bp<|gB_ Q) (bm am<|gB_ R) O) (fun V O=>?_);refine⟨aY,?_⟩;refine ah Z Z (ek Z) Z<|Xg 3 Z<|aG Z (fun ao=>?_) (fun ao=>?_)
   ·refine aH (ad (aK (XL 2 Z (S Z (aB (v:=nI (k2+1)) Z Z<|cI<|a6 (by have:=aS N;have:=F.cQ;omega)) Z<|XO 2 Z<|aD<|aJ ⟨bo-1,(by have:=aS N;omega),oF,k2+1,(by have:=aS N;omega),L4 A Q R (fun e=>by rw[e,show ml am am=0 from(C1.zero _ _ trivial trivial).2 Z] at ao;cases ao),Z,O⟩))))
   refine Wl 3 Z<|aQ<|Xb 4 Z<|S Z (Yx F Z Z Z (e:=34) Z) Z<|Xd 3 Z<|aG Z (fun T=>?_) (fun T=>?_)
   ·exact absurd T (by rw[dS,decide_eq_true_iff];intro h;have:=iJ_ h;have:=DH A (aS u);omega)
   refine aH (aD (XL 2 Z (S Z (aB (v:=nI (i+1)) Z Z<|cI<|a6 (by have:=aS u;have:=ab.cQ;omega)) Z<|XO 2 Z<|aJ ⟨a1-1,(by have:=aS u;omega),oF,i+1,k2,(by have:=aS u;omega),FW A,Z,Z,O⟩)))
  refine Xg 14 Z<|Wl 3 Z<|aQ<|Xb 4 Z<|S Z (Yx F Z Z Z (e:=34) Z) Z<|Xd 3 Z<|aG Z (fun T=>?_) (fun T=>?_)
  ·exact absurd T (by rw[dS,decide_eq_true_iff];intro h;have:=iJ_ h;have:=DH A (aS u);omega)
  refine aH (aD (XL 2 Z (S Z (aB (v:=nI (i+1)) Z Z<|cI<|a6 (by have:=aS u;have:=ab.cQ;omega)) Z<|XO 2 Z<|aJ ⟨a1-1,(by have:=aS u;omega),oF,i+1,k2,(by have:=aS u;omega),FW A,Z,Z,O⟩)))
 refine Wl 3 Z<|aQ<|XN 6 Z ?_;exact az Z Z Z
variable {xs:Array Value}
def Nd (xs ys:List Y):Bool:=
 List.rec (motive:=fun _=>List Y->Bool) (fun ys=>List.rec (motive:=fun _=>Bool) true (fun _ _ _=>false) ys)
  (fun x _ ih ys=>List.rec (motive:=fun _=>Bool) false (fun y r _=>bif dV x y then ih r else false) ys) xs ys
def G8 (xs ys:List eC):Bool:=
 List.rec (motive:=fun _=>List eC->Bool) (fun ys=>List.rec (motive:=fun _=>Bool) true (fun _ _ _=>false) ys)
  (fun x _ ih ys=>List.rec (motive:=fun _=>Bool) false (fun y r _=>bif dV x.key y.key then(bif dV x.val y.val then(bif Nat.beq x.born y.born then ih r else false) else false) else false) ys) xs ys
def Jb (x y:cd):Bool:=
 match x,y with
 | .row c e false,.row c' e' false=>bif Nat.beq e e' then dV.beqL c c' else false
 | .own c e,.own c' e'=>bif Nat.beq e e' then dV.beqL c c' else false
 | .map es k,.map es' k'=>bif Nat.beq k k' then G8 es es' else false
 | .iter s p,.iter s' p'=>bif Nat.beq p p' then wL s s' else false
 | .mark,.mark=>true
 | .dead,.dead=>true
 | _,_=>false
def Ux (l:List (Nat×cd)) (V:D):Bool:=
 List.rec (motive:=fun _=>Bool) true (fun x _ r=>match V.m.get x.1 with | some o=>bif Jb o x.2 then r else false | none=>false) l
def NX (gl:Nat) (laid:List (Nat×List Y)) (e:ME) (f:Nat) (args:List Y) (V:D):Bool:=
 bif Nat.beq e.f f then(bif Nd args e.args then(bif Nat.beq V.next e.next then(bif kB gl V laid then Ux e.l V else false) else false) else false) else false
def Jd (gl:Nat) (laid:List (Nat×List Y)) (mem:List ME) (f:Nat) (args:List Y) (V:D):Option ME:=
 List.rec (motive:=fun _=>Option ME) none (fun e _ r=>bif NX gl laid e f args V then some e else r) mem
def C8 (l:List (Nat×cd)) (m:PT cd):PT cd:=List.rec (motive:=fun _=>PT cd) m (fun x _ r=>r.put none x.1) l
def xT (l:List (Nat×cd)) (m:PT cd):PT cd:=List.rec (motive:=fun _=>PT cd) m (fun x _ r=>r.put (some x.2) x.1) l
def Lo (V:D) (e:ME):D:={next:=e.next',m:=xT e.l' (C8 e.l V.m)}
def tS (laid:List (Nat×List Y)) (E:Nat->TypeId) (e:ME):D:={next:=e.next,m:=xT e.l (Hw laid E)}
def XX (gl:Nat) (laid:List (Nat×List Y)) (e:ME):Bool:=
 Nat.ble gl e.next && (Nat.ble e.next e.next' && ((laid.all fun x=>Nat.blt x.1 gl) && ((e.l.all fun x=>Nat.ble gl x.1 && (Nat.blt x.1 e.next && !x.2.ro)) && (e.l'.all fun x=>Nat.ble gl x.1 && (Nat.blt x.1 e.next' && (!x.2.ro && (Nat.ble e.next x.1 || e.l.any fun y=>Nat.beq y.1 x.1)))))))
theorem Er:∀{xs ys:List Y},Nd xs ys=true->xs=ys
 | [],[],_=>rfl
 | [],_::_,h=>by cases h
 | _::_,[],h=>by cases h
 | x::xs,y::ys,h=>by
  have h':(bif dV x y then Nd xs ys else false)=true:=h;rw[bB] at h';split at h'
  ·rename_i hb;rw[xG hb,Er h']
  cases h'
theorem BD:∀{xs ys:List eC},G8 xs ys=true->xs=ys
 | [],[],_=>rfl
 | [],_::_,h=>by cases h
 | _::_,[],h=>by cases h
 | x::xs,y::ys,h=>by
  have h':(bif dV x.key y.key then(bif dV x.val y.val then(bif Nat.beq x.born y.born then G8 xs ys else false) else false) else false)=true:=h;rw[bB] at h';split at h'
  ·rename_i h1;rw[bB] at h';split at h'
   ·rename_i u;rw[bB] at h';split at h'
    ·rename_i h3;have e1:=xG h1;have e2:=xG u;have e3:=nB h3;rw[BD h'];cases x;cases y;simp only at e1 e2 e3;subst e1;subst e2;subst e3;rfl
    cases h'
   cases h'
  cases h'
theorem Nt {x y:cd} (h:Jb x y=true):x=y:=by
 unfold Jb at h;split at h
 ·rw[bB] at h;split at h
  ·rename_i he;rw[nB he,rD h]
  cases h
 ·rw[bB] at h;split at h
  ·rename_i he;rw[nB he,rD h]
  cases h
 ·rw[bB] at h;split at h
  ·rename_i he;rw[nB he,BD h]
  cases h
 ·rw[bB] at h;split at h
  ·rename_i he;rw[yL,decide_eq_true_eq] at h;rw[nB he,h]
  cases h
 ·rfl
 ·rfl
 cases h
theorem F7:∀{l:List (Nat×cd)} {V:D},Ux l V=true->∀x∈l,V.m.get x.1=some x.2
 | [],V,_,x,hx=>by cases hx
 | y::l,V,h,x,hx=>by
  have h':(match V.m.get y.1 with | some o=>bif Jb o y.2 then Ux l V else false | none=>false)=true:=h;split at h'
  ·rename_i o u;rw[bB] at h';split at h'
   ·rename_i he;rcases mQ_.1 hx with rfl | hx
    ·rw[u,Nt he]
    exact F7 h' x hx
   cases h'
  cases h'
theorem qU:∀{l:List (Nat×cd)} {m:PT cd} {b:Nat} {o:cd},(xT l m).get b=some o->(∃x∈l,x.1=b/\x.2=o)∨((∀x∈l,x.1≠b)/\m.get b=some o)
 | [],m,b,o,h=>.inr ⟨fun x hx=>(by cases hx),h⟩
 | y::l,m,b,o,h=>by
  have h':((xT l m).put (some y.2) y.1).get b=some o:=h;rw[PT.jI] at h';split at h'
  ·rename_i e;cases h';exact .inl ⟨y,mS_,e.symm,Z⟩
  rename_i hne;rcases qU h' with ⟨x,h1,u⟩ | ⟨h1,u⟩
  ·exact .inl ⟨x,mC_ _ h1,u⟩
  refine .inr ⟨fun x hx=>?_,u⟩;rcases mQ_.1 hx with rfl | hx
  ·exact fun e=>hne e.symm
  exact h1 x hx
theorem wI:∀{l:List (Nat×cd)} {m:PT cd} {b:Nat} {o:cd},(C8 l m).get b=some o->(∀x∈l,x.1≠b)/\m.get b=some o
 | [],m,b,o,h=>⟨fun x hx=>(by cases hx),h⟩
 | y::l,m,b,o,h=>by
  have h':((C8 l m).put none y.1).get b=some o:=h;rw[PT.jI] at h';split at h'
  ·cases h'
  rename_i hne;obtain⟨h1,u⟩:=wI h';refine⟨fun x hx=>?_,u⟩;rcases mQ_.1 hx with rfl | hx
  ·exact fun e=>hne e.symm
  exact h1 x hx
theorem Bm {laid:List (Nat×List Y)} {E:Nat->TypeId} {e:ME} {b:Nat} {o:cd} (h:(tS laid E e).m.get b=some o):(∃x∈e.l,x.1=b/\x.2=o)∨∃x∈laid,x.1=b/\o= .row x.2 (E x.1) true:=by
 rcases qU h with h | ⟨_,h⟩
 ·exact .inl h
 exact .inr<|zu E h
def Ww (P:Program) (gl:Nat) (laid:List (Nat×List Y)) (e:ME):Prop:=
 XX gl laid e=true/\∀(E:Nat->TypeId) (U:Ren) (w:World) (xs:Array Value) (R:Ending->World->Prop),Inv U (tS laid E e) w->(∀g,g<gl->∃c,U (posOf g)=some ⟨g,0,c⟩)->di U e.args xs.toList->
  (∀(U':Ren) (σr:D) (w':World) (x:Value),(∀y∈e.l',σr.m.get y.1=some y.2)->σr.next=e.next'->Inv U' σr w'->eH U (tS laid E e) w U' σr w'->VR U' e.v x->R (.returned x) w')->
  Calls P e.f xs w R
section
variable {P:Program} {G:Cx} {U:Ren} {V:D} {w:World}
theorem HA {e:ME} (ha:Ww P G.gl G.laid e) {f:Nat} {args:List Y} (hh:NX G.gl G.laid e f args V=true) (hi:Inv U V w) (hg:GR U G) (hx:di U args xs.toList)
  {R:Ending->World->Prop} (hR:∀(U':Ren) (w':World) (x:Value),Inv U' (Lo V e) w'->eH U V w U' (Lo V e) w'->VR U' e.v x->R (.returned x) w'):Calls P f xs w R:=by
 unfold NX at hh;simp only[bB] at hh;split at hh
 case isFalse=>cases hh
 rename_i hf;split at hh
 case isFalse=>cases hh
 rename_i T;split at hh
 case isFalse=>cases hh
 rename_i W;split at hh
 case isFalse=>cases hh
 rename_i X;have ef:=nB hf;have ea:=Er T;have en:V.next=e.next:=nB W;subst ef;subst ea;obtain⟨am,ao⟩:=ha;have hsub:=F7 hh;have hlg:=zt G.laid X;simp only[XX,bA_,aE_,nE_,Bool.not_eq_true',Bool.or_eq_true,List.any_eq_true] at am;obtain⟨w1,w2,w3,w4,w5⟩:=am
 have hB:∀b o,(tS G.laid (Q0 V) e).m.get b=some o->V.m.get b=some o:=fun b o h=>by
  rcases Bm h with ⟨x,hx,rfl,rfl⟩ | ⟨x,hx,rfl,rfl⟩
  ·exact hsub x hx
  exact hlg x hx
 have ax:∀b o,(tS G.laid (Q0 V) e).m.get b=some o->o.ro=false->∃x∈e.l,x.1=b:=fun b o h F=>by
  rcases Bm h with ⟨x,hx,h1,_⟩ | ⟨x,hx,_,rfl⟩
  ·exact⟨x,hx,h1⟩
  cases F
 have aa:∀r,Wr U (tS G.laid (Q0 V) e) r->Wr U V r:=fun r ⟨b,o,l,h1,A,h3,N⟩=>⟨b,o,l,hB b o h1,A,h3,N⟩
 have ap:Inv U (tS G.laid (Q0 V) e) w:=by
  refine⟨⟨fun b hb=>?_,hi.de,fun b o l h1 A=>hi.obj b o l (hB b o h1) A,fun b b' o o' l l' h1 A h3 N=>hi.inj b b' o o' l l' (hB b o h1) (hB b' o' A) h3 N⟩,hi.oW.size,hi.oW.same,fun r L h=>hi.oW.no r L (aa r h)⟩;have I:V.next.num<=b.num:=by rw[en];exact hb
  have hfr:=hi.fresh b I;refine⟨hfr.1,?_⟩;cases h:(tS G.laid (Q0 V) e).m.get b with
  | none=>rfl
  | some o=>rw[hB b o h] at hfr;cases hfr.2
 refine ao (Q0 V) U w xs R ap hg hx fun U' σr w' x aE a0 ir sr hv=>?_
 have hold:∀b o,(Lo V e).m.get b=some o->(∃x∈e.l',x.1=b/\x.2=o/\σr.m.get b=some o/\o.ro=false)∨((∀x∈e.l,x.1≠b)/\V.m.get b=some o/\b<e.next):=fun b o h=>by
  rcases qU h with ⟨x,hx,h1,A⟩ | ⟨_,h⟩
  ·refine .inl ⟨x,hx,h1,A,?_,?_⟩
   ·rw[<-h1,<-A];exact aE x hx
   rw[<-A];exact(w5 x hx).2.2.1
  obtain⟨h1,A⟩:=wI h;refine .inr ⟨h1,A,?_⟩;apply zo_;intro hn;have:=hi.fresh b (by rw[en];exact Nat.not_lt.1 hn);rw[A] at this;cases this.2
 have u:∀b,b<e.next->U' b=U b:=fun b hb=>sr.ext b hb
 have C:∀b o lb,(∀x∈e.l,x.1≠b)->V.m.get b=some o->U b=some lb->¬Wr U (tS G.laid (Q0 V) e) lb.de:=fun b o lb h1 A h3 ⟨b2,o2,l2,Q,E,M,k4⟩=>by
  obtain⟨x,hx,e2⟩:=ax b2 o2 Q E;have hne:b≠b2:=fun e'=>h1 x hx (e2.trans e'.symm)
  have:=(hi.inj b b2 o o2 lb l2 A (hB b2 o2 Q) h3 M k4.symm hne).2;rw[E] at this;cases this
 have hle:=sr.le ap
 have O:eH U V w U' (Lo V e) w':=by
  refine⟨fun b hb=>?_,?_,sr.size,fun r L a1=>sr.frame r L fun hw=>a1 (aa r hw),fun r hw L=>?_,sr.tape,sr.os,sr.out⟩
  ·exact u b (by have:b<V.next:=hb;rw[en] at this;exact this)
  ·show V.next<=e.next';rw[en];exact w2
  obtain⟨b,o,l,h1,A,h3,rfl⟩:=hw;rcases hold b o h1 with ⟨x,_,_,_,K,F⟩ | ⟨Q,E,M⟩
  ·exact aa _<|sr.wr _ ⟨b,o,l,K,F,h3,Z⟩ L
  rw[u b M] at h3;exact⟨b,o,l,E,A,h3,Z⟩
 refine hR U' w' x ⟨⟨fun b hb=>?_,ir.de,fun b o l h1 A=>?_,fun b b' o o' l l' h1 A h3 N he hne=>?_⟩,hi.oW.of O⟩ O hv
 ·have I:e.next'<=b:=hb;refine⟨(ir.fresh b (by rw[a0];exact I)).1,?_⟩;cases h:(Lo V e).m.get b with
  | none=>rfl
  | some o=>
   rcases hold b o h with ⟨x,hx,h1,_⟩ | ⟨_,_,h3⟩
   ·have:=(w5 x hx).2.1;rw[tV,h1] at this;exact absurd this<|Nat.not_lt.2 I
   exact absurd (zh_ h3 w2)<|Nat.not_lt.2 I
 ·rcases hold b o h1 with ⟨x,_,_,_,L,_⟩ | ⟨Q,E,M⟩
  ·exact ir.obj b o l L A
  rw[u b M] at A;obtain⟨z,hz,a2⟩:=hi.obj b o l E A;exact⟨z,by rw[sr.frame _ (hi.de b l A)<|C b o l Q E A];exact hz,a2.mono hle⟩
 have cross:∀(b b':Nat) (o o':cd) (l l':Loc),σr.m.get b=some o->o.ro=false->(∀x∈e.l,x.1≠b')->V.m.get b'=some o'->b'<e.next->U' b=some l->U' b'=some l'->l.de=l'.de->False:=fun b b' o o' l l' Q E M k4 k5 k6 k7 k8=>by
  rw[u b' k5] at k7;have hlt:=hi.de b' l' k7;have:=sr.wr l.de ⟨b,o,l,Q,E,k6,Z⟩ (by rw[k8];exact hlt);rw[k8] at this;exact C b' o' l' M k4 k7 this
 rcases hold b o h1 with ⟨x,_,_,_,L,F⟩ | ⟨Q,E,M⟩
 ·rcases hold b' o' A with ⟨x',_,_,_,K,_⟩ | ⟨aq,ab,ac⟩
  ·exact ir.inj b b' o o' l l' L K h3 N he hne
  exact(cross b b' o o' l l' L F aq ab ac h3 N he).elim
 rcases hold b' o' A with ⟨x',_,_,_,K,ar⟩ | ⟨aq,ab,ac⟩
 ·exact(cross b' b o' o l' l K ar Q E M N h3 he.symm).elim
 rw[u b M] at h3;rw[u b' ac] at N;exact hi.inj b b' o o' l l' E ab h3 N he hne
theorem yX {gl:Nat} {laid:List (Nat×List Y)} {f:Nat} {args:List Y}:∀{mem:List ME} {e:ME},Jd gl laid mem f args V=some e->e∈mem/\NX gl laid e f args V=true
 | [],e,h=>by cases h
 | y::mem,e,h=>by
  have h':(bif NX gl laid y f args V then some y else Jd gl laid mem f args V)=some e:=h;rw[bB] at h';split at h'
  ·rename_i hh;cases h';exact⟨mS_,hh⟩
  obtain⟨h1,u⟩:=yX h';exact⟨mC_ _ h1,u⟩
end
def TQ (gl:Nat) (laid:List (Nat×List Y)) (mem:List ME) (f:Nat) (args:List Y) (V:D):Option (Y×D):=
 Option.rec (motive:=fun _=>Option (Y×D)) none (fun e=>some (e.v,Lo V e)) (Jd gl laid mem f args V)
theorem Rj {P:Program} {gl:Nat} {laid:List (Nat×List Y)} {G:Cx} (u:G.gl=gl) (hl:G.laid=laid) {mem:List ME} (h:∀e∈mem,Ww P gl laid e) (f:Nat) (args:List Y) (V:D) (v:Y) (V':D) (hk:TQ gl laid mem f args V=some (v,V'))
  (U:Ren) (w:World) (xs:Array Value) (hi:Inv U V w) (A:GR U G) (hx:di U args xs.toList):Calls P f xs w fun e w'=>∃x U',e= .returned x/\VR U' v x/\Inv U' V' w'/\eH U V w U' V' w':=by
 subst u;subst hl;unfold TQ at hk;cases hf:Jd G.gl G.laid mem f args V with
 | none=>rw[hf] at hk;cases hk
 | some e=>
  rw[hf] at hk;cases hk;obtain⟨h1,C⟩:=yX hf;exact HA (h e h1) C hi A hx fun U' w' x i s hv=>⟨x,U',Z,hv,i,s⟩
theorem G2:Tryz.prog.follows .mixedOrders=true:=by kernel_rfl
def Jl (_:Nat):Bool:=false
def TO (_:Nat):Bool:=false
theorem Ub (g:Nat) (h:Jl g=true):x8 Tryz.prog g:=by cases h
def vE:List Y:=[.bool false,.bool false,.bool false,.bool false,.int .i64 0,.bool true,.bool false,.bool false,.bool false,.int .i64 1,.bool true,.bool true,.bool true,.bool false,.int .i64 0,.bool false,.bool true,.bool true,.bool false,.int .i64 1,.bool true,.bool true,.bool true,.bool false,.int .i64 2,.bool true,.bool true,.bool true,.bool false,.int .i64 1,.bool true,.bool true,.bool true,.bool false,.int .i64 1,.bool false,.bool false,.bool true,.bool false,.int .i64 0,.bool false,.bool false,.bool false,.bool false,.int .i64 1,.bool false,.bool false,.bool false,.bool false,.int .i64 1,.bool false,.bool false,.bool false,.bool true,.int .i64 0,.bool false,.bool false,.bool false,.bool true,.int .i64 1,.bool false,.bool false,.bool false,.bool false,.int .i64 0,.bool false,.bool false,.bool false,.bool false,.int .i64 0]
def CX:List Y:=[.int .u64 1,.int .u64 10,.int .u64 100,.int .u64 1000,.int .u64 10000,.int .u64 100000,.int .u64 1000000,.int .u64 10000000,.int .u64 100000000,.int .u64 1000000000,.int .u64 10000000000,.int .u64 100000000000,.int .u64 1000000000000,.int .u64 10000000000000,.int .u64 100000000000000,.int .u64 1000000000000000,.int .u64 10000000000000000,.int .u64 100000000000000000,.int .u64 1000000000000000000,.int .u64 10000000000000000000]
def CY:List Y:=[.int .u8 0,.int .u8 1,.int .u8 28,.int .u8 2,.int .u8 29,.int .u8 14,.int .u8 24,.int .u8 3,.int .u8 30,.int .u8 22,.int .u8 20,.int .u8 15,.int .u8 25,.int .u8 17,.int .u8 4,.int .u8 8,.int .u8 31,.int .u8 27,.int .u8 13,.int .u8 23,.int .u8 21,.int .u8 19,.int .u8 16,.int .u8 7,.int .u8 26,.int .u8 12,.int .u8 18,.int .u8 6,.int .u8 11,.int .u8 5,.int .u8 10,.int .u8 9]
def CZ:List Y:=[.int .u8 0,.int .u8 1,.int .u8 56,.int .u8 2,.int .u8 57,.int .u8 49,.int .u8 28,.int .u8 3,.int .u8 61,.int .u8 58,.int .u8 42,.int .u8 50,.int .u8 38,.int .u8 29,.int .u8 17,.int .u8 4,.int .u8 62,.int .u8 47,.int .u8 59,.int .u8 36,.int .u8 45,.int .u8 43,.int .u8 51,.int .u8 22,.int .u8 53,.int .u8 39,.int .u8 33,.int .u8 30,.int .u8 24,.int .u8 18,.int .u8 12,.int .u8 5,.int .u8 63,.int .u8 55,.int .u8 48,.int .u8 27,.int .u8 60,.int .u8 41,.int .u8 37,.int .u8 16,.int .u8 46,.int .u8 35,.int .u8 44,.int .u8 21,.int .u8 52,.int .u8 32,.int .u8 23,.int .u8 11,.int .u8 54,.int .u8 26,.int .u8 40,.int .u8 15,.int .u8 34,.int .u8 20,.int .u8 31,.int .u8 10,.int .u8 25,.int .u8 14,.int .u8 19,.int .u8 9,.int .u8 13,.int .u8 8,.int .u8 7,.int .u8 6]
def kh:List (Nat×List Y):=[(0,vE),(3,CX),(4,CY),(5,CZ)]
theorem XW:D3 6 kh=true:=by kernel_rfl
def GK:Cx:=⟨6,Jl,TO,fun _ _=>none,kh,[],fun _ _ _=>none,TQ 6 kh []⟩
theorem QA:∀e∈([]:List ME),Ww Tryz.prog 6 kh e:=fun e h=>by cases h
theorem W3:AG Tryz.prog GK:=⟨Ub,(fun f args v h=>by cases h),(fun e h=>by cases h),fun f a s v s' h U w xs hi u hx=>Rj (G:=GK) Z Z QA f a s v s' h U w xs hi u hx⟩
theorem VP (E:Nat->TypeId):q9 (EU Tryz.prog GK 2000 4 [] (σG 6 kh E))=true:=by kernel_rfl
theorem TP:IH Tryz.prog 6 kh 4 [] (.bool true):=Hv (G:=GK) G2 W3 XW VP
end Go.Ev
end
