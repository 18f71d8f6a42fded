/- Part of the proof: an evaluator of the model's code, rules for walks on it, walks. Without conditions. -/
import Derived.Test.YtnchkcbckgcejaaGreatDoorEb
import Derived.Test.YtnchkcbckgcejaaGreatDoorEe
import Derived.Test.YtnchkcbckgcejaaGreatDoorEc
import Derived.Test.YtnchkcbckgcejaaGreatDoorEd
import Derived.Test.YtnchkcbckgcejaaGreatDoorEa
import Derived.KernelRfl
import Derived.Test.YtnchkcbckgcejaaGreatDoorProg
import Derived.Test.YtnchkcbckgcejaaGreatDoorRows
import Derived.Shelf.SlSortCmp.NoneTotal
import Derived.ReadAgain
import Derived.ProofKit
set_option linter.unusedSectionVars false
set_option linter.unusedVariables false
set_option linter.unusedSimpArgs false
noncomputable section
set_option maxHeartbeats 8000000
set_option maxRecDepth 100000
open Go.Proofs
namespace Go.Ev
variable [Env]
variable {G:Cx} {K:KP} {O:aB} {L:Own} {g:XG} {α:Type} {us:List V} {u:V} {R:α->List V->Prop}
def rP {α:Type} (l:List α):List (List α):=gM l.length l
def mX (init:List Int) (threads:List (List cm)) (F_:List (List bS)) (x:Nat) (os:List (List bS)):List XG:=(iU (((eO init threads).drop x).map rP)).map fun r=>⟨init,threads,F_,os++r⟩
section
variable {init:List Int} {threads:List (List cm)} {F_:List (List bS)} {x k:Nat} {os:List (List bS)} {w pre S:List bS}
theorem Ak (h:(eO init threads).length<=x):mX init threads F_ x os= [⟨init,threads,F_,os⟩]:=by
 unfold mX;rw[List.drop_of_length_le h];show [(⟨init,threads,F_,os++[]⟩:XG)]=_;rw[zk_]
theorem DM (h:(eO init threads)[x]? =some w):mX init threads F_ x os=(rP w).flatMap fun o=>mX init threads F_ (x+1) (os++[o]):=by
 unfold mX;obtain⟨hx,rfl⟩:=gA.1 h;rw[zj_ hx,List.map_cons];show((rP (eO init threads)[x]).flatMap fun o=>(iU (((eO init threads).drop (x+1)).map rP)).map (o::·)).map _=_
 rw[List.map_flatMap];refine congrArg (fun f=>List.flatMap f (rP (eO init threads)[x]))<|funext fun o=>?_;rw[List.map_map];refine List.map_congr_left fun r _=>?_
 show(⟨init,threads,F_,os++o::r⟩:XG)=⟨init,threads,F_,(os++[o])++r⟩;rw[lQ_];rfl
def rV (init:List Int) (threads:List (List cm)) (k:Nat) (pre:List bS):List XG:=
 (iU ((dR init threads).drop k)).flatMap fun r=>mX init threads (dj (eS threads) (iB threads) (pre++r)) 0 []
theorem I9 (h:(iB threads).length<=k):rV init threads k pre=mX init threads (dj (eS threads) (iB threads) pre) 0 []:=by
 unfold rV;rw[List.drop_of_length_le (by unfold dR;rw[lM_];exact h)];show(mX _ _ (dj _ _ (pre++[])) 0 [])++[]=_;rw[zk_,zk_]
theorem DN (h:(dR init threads)[k]? =some S):rV init threads k pre=S.flatMap fun s=>rV init threads (k+1) (pre++[s]):=by
 unfold rV;obtain⟨hx,rfl⟩:=gA.1 h;rw[zj_ hx];show((dR init threads)[k].flatMap fun x=>(iU ((dR init threads).drop (k+1))).map (x::·)).flatMap _=_
 rw[List.flatMap_assoc];refine congrArg (fun f=>List.flatMap f (dR init threads)[k])<|funext fun s=>?_;rw[List.flatMap_map];refine congrArg (fun f=>List.flatMap f _)<|funext fun r=>?_;rw[lQ_];rfl
theorem Al:rV init threads 0 []=gV (fun l=>gM l.length l) init threads:=rfl
end
theorem vU:∀{rs:List (bS×cm)} {F_:List (List bS)} {pre:List bS} {r:bS×cm} {s:bS},rs[pre.length]? =some r->dj F_ rs (pre++[s])=fU (dj F_ rs pre) r.1 s
 | q::rs,F_,[],r,s,h=>by
  obtain rfl:=zs_ h;cases rs<;>rfl
 | q::rs,F_,p::pre,r,s,h=>by
  show dj (fU F_ q.1 p) rs (pre++[s])=fU (dj (fU F_ q.1 p) rs pre) r.1 s;exact vU h
 | [],_,[],_,_,h=>by cases h
 | [],_,_::_,_,_,h=>by cases h
theorem Kh {F_:List (List bS)} {r s:bS} {n:Nat} (h:∀l∈F_,l.length<=n):∀l∈fU F_ r s,l.length<=n:=fun l hl=>by
 unfold fU at hl;rcases List.mem_or_eq_of_mem_set hl with hl | rfl
 ·exact h l hl
 rw[zg_,List.getD_eq_getElem?_getD];cases hx:F_[r.bH.toNat-1]? with
 | none=>exact Nat.zero_le _
 | some l2=>exact h l2 (gB_ hx)
theorem vT {n:Nat}:∀{rs:List (bS×cm)} {F_:List (List bS)} {fs:List bS},(∀l∈F_,l.length<=n)->∀l∈dj F_ rs fs,l.length<=n
 | [],_,_,h=>h
 | _::_,_,[],h=>h
 | r::rs,F_,s::fs,h=>by
  show∀l∈dj (fU F_ r.1 s) rs fs,l.length<=n;exact vT<|Kh h
theorem Ht {threads:List (List cm)} {n:Nat} (h:∀l∈threads,l.length<=n):∀l∈eS threads,l.length<=n:=fun l hl=>by
 obtain⟨r,d,rfl⟩:=zn_.1 hl;rw[lM_];exact h r d
theorem GM {m d:Nat} {ls:List (List α)} {N:Own} (z:cy 1 d zL us u N) (hl:us.length=ls.length) (A:∀e∈N,K e.1 e.2) (h:∀(i:Nat) (x:List α),ls[i]? =some x->∃v,us[i]? =some v/\bO K m R x v):bO K 1 (RL K m R) ls u:=by
 rcases z with ⟨rfl,rfl,_⟩ | ⟨b,c,cells,e,rfl,rfl,h3,B,h5,h6⟩
 ·exact .inl ⟨List.length_eq_zero_iff.1 hl.symm,Z⟩
 refine .inr ⟨b,0,c,cells,e,false,by rw[hl],?_,A _<|mS_ ..,by omega,by omega,fun i x hx=>?_⟩
 ·rcases h5 with h5 | h5
  ·exact .inr ⟨_,h5,by omega⟩
  exact .inl h5.1
 obtain⟨u,h1,C⟩:=h i x hx;refine⟨u,?_,C⟩;have:=(B i u h1).1;simpa using this
theorem Qa {os:List (List α)} {f x:Nat} {o:List α} (h:os.length=x):(os++List.replicate (f+1) []).set x o=(os++[o])++List.replicate f []:=by
 rw[List.set_append_right _ _ oM,h,Nat.sub_self,lQ_];rfl
variable {F_:List (List bS)}
theorem H.QN {N1 u z A B C L:Own} (h:H O K (N1++(u++(z++(A++(B++(C++L))))))):∃d,KP.le K d/\(∀e∈N1,d e.1 e.2)/\(∀e∈u,d e.1 e.2)/\(∀e∈z,d e.1 e.2)/\(∀e∈A,d e.1 e.2)/\(∀e∈B,d e.1 e.2)/\(∀e∈C,d e.1 e.2)/\H O d L:=by
 have E:H O K ((N1++(u++(z++(A++(B++C)))))++L):=by simpa only[lQ_] using h
 obtain⟨d,hle,hm,I⟩:=E.bF;simp only[List.mem_append] at hm;exact⟨d,hle,fun e he=>hm e (by simp only[he,true_or]),fun e he=>hm e (by simp only[he,true_or,or_true]),fun e he=>hm e (by simp only[he,true_or,or_true]),fun e he=>hm e (by simp only[he,true_or,or_true]),fun e he=>hm e (by simp only[he,true_or,or_true]),fun e he=>hm e (by simp only[he,or_true]),I⟩
theorem ub:∀x vs,zL x vs->Of x vs:=fun _ _ h=>⟨h.1,h.2.2,h.2.1⟩
theorem Rq (hG:Plain G) {m:Int} {init:List Int} {threads:List (List cm)} (hE:fX init threads=0) (bm:∀w∈eO init threads,w.length<=7) (hF4:F_.length<=4) (hF14:∀l∈F_,l.length<=14):
  ∀(f x:Nat) (K:KP) (os:List (List bS)) (a b c d r:V) (acc:List XG) (u:V) (M:Own) (O:aB),x+f=init.length->os.length=x->(∀l∈os,l.length<=7)->dS K ⟨init,threads,F_,os++List.replicate f []⟩ a b c d->bO K 2 dK [] r->cy 4 52 (RG K) acc u M->acc.length+(mX init threads F_ x os).length<=1000000->H O K (M++L)->
   EC G 22 [.int .i64 m,.agg [a,b,c,d],r,nI x,u] O fun v O'=>∃K' M',KP.le K K'/\cy 4 52 (RG K') (acc++(mX init threads F_ x os).filter (gI m)) v M'/\H O' K' (M'++L):=by
 obtain⟨h6,h4,a1,bl⟩:=oO hE;have wlen:(eO init threads).length=init.length:=yT;intro f;induction f with
 | zero=>
  intro x K os a b c d r acc u M O hx ap S N hr hA hb ar;refine V9 hG Tryz.func22 Z<|Vw 2 Z<|kb ar (cH Z Z) (fun O b1 ar=>?_);refine TE 7 Z<|J Z (W5 hr Z Z Z (e:=87) Z) Z<|Vy 3 Z<|aG Z (fun W=>?_) (fun W=>?_)
  ·exact absurd W (by decide)
  refine UF 3 Z<|VE ar 5 [0,0] Z Z<|J Z (W5 N.init Z Z Z (e:=2) Z) Z<|Vy 3 Z<|aG Z (fun aa=>?_) (fun aa=>?_)
  ·exact absurd (aM aa) (by show¬x<init.length;omega)
  refine UG 5 Z<|J Z (Xd Z ar.g0 Z) Z<|kw (W2 Z Z Z) (J3 hG N m ar) ?_;rintro _ O ⟨rfl,ar⟩;refine UJ 13 Z<|aG Z (fun ab=>?_) (fun ab=>?_)
  ·refine We 2 Z<|J Z (Xd Z ar.g0 Z) Z<|fh ar Z (bN (e:=52) (m:=4) (z:=[.av,.av,.av,.av]) (cs:=[_,_,_,_]) U U U U<|aZ Z Z Z Z bE) (fun _=>Z) (fun O b2 ar=>?_);replace ar:=ar.pull (.there (.there<|bu.here (X:=M)));replace ar:=ar.pull (.bV<|bu.here (X:=[_]));rw[za_] at ar;refine fw (R:=RG K) (m:=4) (e:=52) hA ar (dn (m:=4) Z (show RG K ⟨init,threads,F_,os++List.replicate 0 []⟩ _ from⟨_,_,_,_,Z,N⟩)) RG.leaf (by simp only[zc_,List.length_nil];omega) Z Z Z Z Z Z Z (fun _=>Z) (fun O bH a2 hO110 ar=>?_);refine VA 10 Z ?_;have aE:mX init threads F_ x os= [⟨init,threads,F_,os++List.replicate 0 []⟩]:=by rw[Ak oM];show _= [(⟨init,threads,F_,os++[]⟩:XG)];rw[zk_]
   replace ar:=ar.pull (.bV<|bu.here (X:=[_]));rw[za_] at ar;exact aA Z Z ⟨K,a2,KP.le_refl _,(by rw[aE,List.filter_cons_of_pos ab];exact hO110),ar.pop⟩
  refine Vx 9 Z ?_;have aE:mX init threads F_ x os= [⟨init,threads,F_,os++List.replicate 0 []⟩]:=by rw[Ak oM];show _= [(⟨init,threads,F_,os++[]⟩:XG)];rw[zk_]
  exact aA Z Z ⟨K,M,KP.le_refl _,(by rw[aE,List.filter_cons_of_neg (by rw[ab];decide),List.filter_nil,zk_];exact hA),ar.pop⟩
 | succ f ih=>
  intro x K os a b c d r acc u M O hx ap S N hr hA hb ar;have a3:x<init.length:=by omega
  obtain⟨w0,bo⟩:=dc a3;obtain⟨w,hw⟩:∃w,(zC threads (.ofNat x)).map (·.1)=w:=⟨_,Z⟩
  have a0:(eO init threads)[x]? =some w:=by rw[Dm a3,hw]
  have a4:w.length<=7:=bm w (gB_ a0);have bp:bO K 1 ek init a:=N.init;have bq:bO K 1 (RL K 5 gG) threads b:=N.threads
  have a5:On ⟨init,threads,F_,os++List.replicate (f+1) []⟩:=by
   refine⟨by show init.length<=_;omega,by show threads.length<=_;omega,fun l hl=>by have:=a1 l hl;omega,by show F_.length<=_;omega,fun l hl=>by have:=hF14 l hl;omega,by show(os++List.replicate (f+1) []).length<=_;rw[lA_,List.length_replicate];omega,fun l hl=>?_⟩;rcases List.mem_append.1 hl with hl | hl
   ·have:=S l hl;omega
   rw[eR_ hl];exact Nat.zero_le _
  refine V9 hG Tryz.func22 Z<|Vw 2 Z<|kb ar (cH Z Z) (fun O b1 ar=>?_);refine TE 7 Z<|J Z (W5 hr Z Z Z (e:=87) Z) Z<|Vy 3 Z<|aG Z (fun W=>?_) (fun W=>?_)
  ·exact absurd W (by decide)
  refine UF 3 Z<|VE ar 5 [0,0] Z Z<|J Z (W5 N.init Z Z Z (e:=2) Z) Z<|Vy 3 Z<|aG Z (fun aa=>?_) (fun aa=>?_)
  ·refine Vw 2 Z<|J Z (Xd Z ar.g0 Z) Z<|vQ 1 Z<|kw (W2 Z Z Z) (xy hG bp bq h4 a1 ⟨N.from_.leaf.2,N.from_.leaf.1⟩ ⟨N.order.leaf.2,N.order.leaf.1⟩ bo ar) ?_;rintro _ O ⟨u1,u2,M1,M2,rfl,hI,hV,ar⟩;rw[hw] at hI;replace ar:=ar.bG;obtain⟨K1,a9,B,ar⟩:=ar.bF (M:=M1);have hI1:=hI.fg (K:=K1) B;clear B;obtain⟨K2,ao,B,ar⟩:=ar.bF (M:=[_]);have hb1:=B _ (.head _);clear B;have hI2:=hI1.mono ao fun _ _ h=>h
   have hle02:=KP.le_trans a9 ao;have hg2:=N.mono hle02;refine UK 10 Z<|qo (e:=87) (m:=2) (k:=1) hI2 (Nat.succ_le_succ<|Nat.zero_le _) Z Z U U Z Z (fun _=>Z) (fun b5 ba=>?_);refine kw (W2 Z Z Z) (KV hG w.length K2 w _ _ _ a4 Z ba ar) ?_;rintro u76 O ⟨K3,C,hP,ar⟩;replace hP:bO K3 1 (RL K3 2 dK) (rP w) u76:=hP;refine TD 10 Z<|bk ([4,17,18]++rg 77 22) (fun j t O=>∃(i:Nat) (K4:KP) (u4:V) (M4:Own),j+i=(rP w).length/\KP.le K3 K4/\cy 4 52 (RG K4) (acc++(((rP w).take i).flatMap (fun o=>mX init threads F_ (x+1) (os++[o]))).filter (gI m)) u4 M4/\t.get 4=some (u4)/\t.get 17=some (nI i)/\H O K4 (M4++L)) ((rP w).length) ⟨0,K3,u,M,Z,KP.le_refl _,(by show cy 4 52 _ (acc++[]) _ _;rw[zk_];exact hA.fS fun _ _ h=>h.mono (KP.le_trans hle02 C)),Z,Z,ar⟩ ?_;clear ar;intro bs t O ak hI;obtain⟨i,K4,u4,M4,b0,A,hO4,bt,bc,ar⟩:=hI;obtain⟨oo,rfl⟩:=ak.q2 bt bc Z;have hg4:=hg2.mono (KP.le_trans C A);have hP4:=hP.mono A fun _ _ h=>h.mono A;have hb4:=A _ _ (C _ _ hb1)
   refine UE 5 Z<|J Z (W5 hP4 Z Z Z (e:=42) Z) Z<|Vy 3 Z<|aG Z (fun I=>?_) (fun I=>?_)
   ·refine SF 6 Z<|J Z (Xd Z (ar.cg hb4) Z) Z<|kw (W2 Z Z Z) (BU hG hg4 a5 ar) ?_;rintro _ O ⟨q0,N0,q1,b6,O1,I1,q2,b7,O2,I2,q3,bv,O3,I3,rfl,Q,ar⟩;refine kb ar (W6 (cs:=[.av,.av,.av,.av])) (fun O b2 ar=>?_);refine bT ar Z (Sx Z Z Z ar.g0 (m:=4) Z (aj Q.init.leaf.2<|aj Q.o1.leaf.2<|aj Q.o2.leaf.2<|aj Q.o3.leaf.2 aC) (cells':=[_,_,_,_]) Z) Z (fun O ar=>?_);refine UJ 3 Z<|aL (l:=zp [0,1,2,3,4,5,6,7,8]) U U ?_;obtain⟨o,ho⟩:=dc (show i<(rP w).length from aM I);have h3l:=Q.order.length;have am:x<bv.length:=by rw[h3l];show x<(os++List.replicate (f+1) []).length;rw[lA_,List.length_replicate];omega
    obtain⟨bb,cc,cells,ee,hu,hM,h3,h4c,h5,h6c⟩:=Q.o3.cell oM;subst hM;replace ar:H O K4 (_::(bb,.row cells ee false)::_):=ar;refine Wl ar 5 [3,0] Z Z<|WW (e:=42) (m:=1) hP4 ho Z Z Z Z Z (fun b8 b3 bd b4 be=>?_);have hr90':=be;obtain⟨ac,rfl,E⟩:=hr90';refine ah Z Z (W7 ar bd Z Z) Z<|ah Z Z (eH (e:=42) (m:=1) Z U (congrArg some hu) Z am) Z<|eF ar (.there .here) Z Z (gn Z Z E.leaf.1 ar.pop.g0 (m:=1) U Z (show 0+x*1+1<=cells.length by rw[h3];omega)<|aj E.leaf.2 aC) Z (fun O ar=>?_);refine⟨aT,?_⟩;rw[nA_] at ar;have hO2:=wS (b:=bb) h3 h4c h5 h6c (i:=x) am (y:=ac) (vs:=[ac]) (show zL ac [ac] from⟨Z,E.leaf⟩) Z;rw[<-hu] at hO2;refine VB 2 Z (We 2 Z (J Z (Xd Z ar.g0 Z) Z (vQ 1 Z (J Z (ay (v:=nI (x+1)) Z Z<|cI<|aX oM) Z<|vQ 1 Z ?_))));replace ar:=ar.pop;obtain⟨K5,bf,m3,j3,m2,j2,m1,j1,ar⟩:=H.QN (N1:=[_]) ar;obtain⟨K5b,hle5b,m0,ar⟩:=ar.bF (M:=N0);have hK:=KP.le_trans bf hle5b
    have bw:dS K5b ⟨init,threads,F_,(os++[o])++List.replicate f []⟩ q0 q1 q2 q3:=by
     refine⟨Q.init.fg m0,gO (Q.o1.fS ub) Q.threads (fun e he=>hle5b _ _ (m1 e he)) (fun e he=>hle5b _ _ (j1 e he)),gO (Q.o2.fS ub) Q.from_ (fun e he=>hle5b _ _ (m2 e he)) (fun e he=>hle5b _ _ (j2 e he)),?_⟩;rw[<-Qa ap];refine GM hO2 (by rw[zg_,zg_];exact h3l) (fun e he=>hle5b _ _ (m3 e he)) fun y l hy=>?_
     by_cases bg:x=y
     ·subst bg;rw[List.getElem?_set_self (by rw[<-h3l];exact am)] at hy;obtain rfl:=zs_ hy;exact⟨ac,List.getElem?_set_self am,E.mono hK fun _ _ h=>h⟩
     rw[List.getElem?_set_ne bg] at hy⊢;exact Q.order.each (fun e he=>hle5b _ _ (j3 e he)) y l hy
    have hroom:=wZ (f:=(fun o=>mX init threads F_ (x+1) (os++[o]))) (p:=gI m) (T:=rP w) (pre:=(rP w).take i) (o:=o) ⟨(rP w).drop (i+1),by rw[<-e6 ho,List.take_append_drop]⟩ (by rw[DM a0] at hb;exact hb);refine kw (W2 Z Z Z) (ih (x+1) K5b (os++[o]) q0 q1 q2 q3 .av _ u4 M4 _ oM (by rw[lA_,ap];rfl) (fun l hl=>(List.mem_append.1 hl).elim (S l) fun hl=>(by rw[List.mem_singleton.1 hl];have:=ED (n:=w.length) (l:=w) (P:=rP w) Z ho;omega)) bw (.inl ⟨Z,Z⟩) (hO4.fS fun _ _ h=>h.mono hK) hroom ar) ?_;rintro bD O ⟨K6,M6,bi,hA6,ar⟩;refine Wg 2 Z<|az<|Wd 5 Z ?_;refine aD ⟨bs-1,(by have:=aM I;omega),oF,i+1,K6,bD,M6,(by have:=aM I;omega),KP.le_trans A<|KP.le_trans hK bi,(by rw[e6 ho,List.flatMap_append,List.filter_append,<-lQ_,List.flatMap_singleton];exact hA6),Z,cI (aX (by have:=aM I;have:=qv w.length w Z;have:=Cc a4;have:(rP w).length=(gM w.length w).length:=rfl;omega)),ar⟩
   refine UH 3 Z<|aN<|Vx 8 Z ?_;exact aA Z Z ⟨K4,M4,KP.le_trans hle02<|KP.le_trans C A,(by rw[DM a0,<-tL_ (bK I)];exact hO4),ar⟩
  exact absurd (bK aa) (by show¬init.length<=x;omega)
theorem S6 {a:Nat} (h:dH 0 (.ofNat a)=false):a=0:=Nat.le_zero.1 (bK (a:=0) h)
theorem Rp (hG:Plain G) {m:Int} {init:List Int} {threads:List (List cm)} (hE:fX init threads=0) (b4:∀w∈eO init threads,w.length<=7):
  ∀(f k:Nat) (K:KP) (pre:List bS) (a b c d r:V) (acc:List XG) (u:V) (M:Own) (O:aB),k+f=(iB threads).length->pre.length=k->dS K ⟨init,threads,dj (eS threads) (iB threads) pre,List.replicate init.length []⟩ a b c d->bO K 2 dK (((iB threads).drop k).map (·.1)) r->cy 4 52 (RG K) acc u M->acc.length+(rV init threads k pre).length<=1000000->H O K (M++L)->
   EC G 22 [.int .i64 m,.agg [a,b,c,d],r,nI 0,u] O fun v O'=>∃K' M',KP.le K K'/\cy 4 52 (RG K') (acc++(rV init threads k pre).filter (gI m)) v M'/\H O' K' (M'++L):=by
 obtain⟨h6,h4,ao,ap⟩:=oO hE;have a3:∀pre,∀l∈dj (eS threads) (iB threads) pre,l.length<=14:=fun pre=>vT (Ht ao)
 have a1:∀pre,(dj (eS threads) (iB threads) pre).length=threads.length:=fun pre=>by rw[sR];unfold eS;rw[lM_]
 intro f;induction f with
 | zero=>
  intro k K pre a b c d r acc u M O hk aa hg hr hA hb ar;rw[List.drop_of_length_le oM] at hr;rw[I9 oM] at hb⊢;exact Rq hG hE b4 (by rw[a1];exact h4) (a3 pre) init.length 0 K [] a b c d r acc u M O (nA_ _) Z (fun l hl=>by cases hl) hg hr hA hb ar
 | succ f ih=>
  intro k K pre a b c d r acc u M O hk aa hg hr hA hb ar;obtain⟨rr,ab⟩:=dc (show k<(iB threads).length by omega)
  have b5:((iB threads).drop k).map (·.1)=rr.1::((iB threads).drop (k+1)).map (·.1):=by
   obtain⟨hx,rfl⟩:=gA.1 ab;rw[zj_ hx];rfl
  rw[b5] at hr;have a2:(rr.1::((iB threads).drop (k+1)).map (·.1))[0]? =some rr.1:=rfl
  obtain⟨ra,rk,row,Q,aE,a4,b6⟩:=xw ab;obtain⟨x,hl,b7⟩:=Cr (ap _ (gB_ aE) _<|gB_ a4) (s6 b6);obtain⟨w0,b8⟩:=dc b7;obtain⟨_,b9⟩:=np rr (gB_ ab);have ca:bO K 1 ek init a:=hg.init;have cb:bO K 1 (RL K 5 gG) threads b:=hg.threads;have cd:kX init threads (⟨.ofNat (ra+1),.ofNat rk⟩,rr.2)=kX init threads rr:=by rw[<-Q]
  obtain⟨S,a5⟩:∃S,kX init threads rr=S:=⟨_,Z⟩;have hS:(dR init threads)[k]? =some S:=by unfold dR;rw[gM_,ab,<-a5];rfl
  have c7:S.length<=1000:=w8 h4 ao _ (gB_ hS)
  have a9:On ⟨init,threads,dj (eS threads) (iB threads) pre,List.replicate init.length []⟩:=by
   refine⟨by show init.length<=_;omega,by show threads.length<=_;omega,fun l hl=>by have:=ao l hl;omega,by show(dj _ _ _).length<=_;rw[a1];omega,fun l hl=>by have:=a3 pre l hl;omega,by show(List.replicate init.length _).length<=_;rw[List.length_replicate];omega,fun l hl=>?_⟩;rw[eR_ hl];exact Nat.zero_le _
  refine V9 hG Tryz.func22 Z<|Vw 2 Z<|kb ar (cH Z Z) (fun O b1 ar=>?_);refine TE 7 Z<|J Z (W5 hr Z Z Z (e:=87) Z) Z<|Vy 3 Z<|aG Z (fun ba=>?_) (fun ba=>?_)
  ·refine al<|aL (l:=zp [0,1,2,3,4,5]) U U<|ah Z Z (Xd Z ar.g0 Z) Z<|wQ 1 Z<|WW (e:=87) (m:=2) hr a2 Z Z Z Z Z (fun c8 cr bc cv bd=>?_);obtain rfl:=bd;refine ah Z Z (W8 ar bc Z Z) Z<|ed Z Z (W2 Z Z Z) (fun _=>Z) (by rw[show(V.agg<|ints rr.1.ints)= .agg [nI (ra+1),nI rk] from by rw[Q];rfl];exact Ag hG ca cb h4 ao ⟨hg.from_.leaf.2,hg.from_.leaf.1⟩ ⟨hg.order.leaf.2,hg.order.leaf.1⟩ aE a4 hl b8 ar) ?_;rintro c9 O ⟨ce,hM28,ar⟩;rw[cd,a5] at hM28;refine⟨aT,?_⟩;obtain⟨K1,be,I,ar⟩:=ar.bF (M:=ce);have hS1:=hM28.fg (K:=K1) I;clear I;obtain⟨K2,a0,I,ar⟩:=ar.bF (M:=[_]);have hb1:=I _ (.head _);clear I;have hS2:=hS1.mono a0 fun _ _ h=>h
   have hle02:=KP.le_trans be a0;have hg2:=hg.mono hle02;have hr2:=hr.mono hle02 fun _ _ h=>h
   refine VB 3 Z<|UD 7 Z<|bk ([4,12,13]++rg 29 33) (fun j t O=>∃(i:Nat) (K4:KP) (u4:V) (M4:Own),j+i=S.length/\KP.le K2 K4/\cy 4 52 (RG K4) (acc++((S.take i).flatMap (fun s=>rV init threads (k+1) (pre++[s]))).filter (gI m)) u4 M4/\t.get 4=some (u4)/\t.get 12=some (nI i)/\H O K4 (M4++L)) (S.length) ⟨0,K2,u,M,Z,KP.le_refl _,(by show cy 4 52 _ (acc++[]) _ _;rw[zk_];exact hA.fS fun _ _ h=>h.mono hle02),Z,Z,ar⟩ ?_;clear ar;intro j4 t O ak hI;obtain⟨i,K4,u4,M4,dd,E,hO4,ch,bf,ar⟩:=hI;obtain⟨oo,rfl⟩:=ak.q2 ch bf Z;have hg4:=hg2.mono E;have hS4:=hS2.mono E fun _ _ h=>h;have hr4:=hr2.mono E fun _ _ h=>h;have hb4:=E _ _ hb1
   refine UE 5 Z<|J Z (W5 hS4 Z Z Z (e:=87) Z) Z<|Vy 3 Z<|aG Z (fun R=>?_) (fun R=>?_)
   ·refine SF 6 Z<|J Z (Xd Z (ar.cg hb4) Z) Z<|kw (W2 Z Z Z) (BU hG hg4 a9 ar) ?_;rintro _ O ⟨q0,N0,q1,df,O1,I1,q2,ci,O2,I2,q3,dk,O3,I3,rfl,W,ar⟩;refine kb ar (W6 (cs:=[.av,.av,.av,.av])) (fun O b2 ar=>?_);refine bT ar Z (Sx Z Z Z ar.g0 (m:=4) Z (aj W.init.leaf.2<|aj W.o1.leaf.2<|aj W.o2.leaf.2<|aj W.o3.leaf.2 aC) (cells':=[_,_,_,_]) Z) Z (fun O ar=>?_);refine UJ 3 Z<|aL (l:=zp [0,1,2,3,4,5,6,7,8,9,10,11,12,13,14,15,16,17,18]) U U ?_;replace ar:=ar.pull (.there (.bV (.bV (.bV<|bu.here (X:=I2)))));replace ar:=ar.pull (.bV (.there (.bV (.bV (.bV (.bV (.bV<|bu.here (X:=N0))))))));replace ar:=ar.pull (.bV (.bV (.there (.bV (.bV (.bV (.bV<|bu.here (X:=I1))))))));replace ar:=ar.pull (.bV (.bV (.bV (.there (.bV (.bV (.bV<|bu.here (X:=O1))))))));replace ar:=ar.pull (.bV (.bV (.bV (.bV (.there (.bV (.bV<|bu.here (X:=O2))))))));replace ar:=ar.pull (.bV (.bV (.bV (.bV (.bV (.there (.bV<|bu.here (X:=I3))))))));replace ar:=ar.pull (.bV (.bV (.bV (.bV (.bV (.bV (.there<|bu.here (X:=O3))))))));obtain⟨K5,ac,m3,j3,m2,m1,j1,m0,ar⟩:=H.QN ar;have hS5:=hS4.mono ac fun _ _ h=>h;have hr5:=hr4.mono ac fun _ _ h=>h
    obtain⟨s,hs⟩:=dc (show i<S.length from aM R);obtain⟨_,am,C⟩:=sQ (rs:=iB threads) (fs:=pre) b9;have e1:rr.1.bH.toNat-1=ra:=by rw[Q];rfl
    have e2:rr.1.index.toNat=rk:=by rw[Q];rfl
    rw[e1] at am C;rw[e2] at C;obtain⟨frow,N⟩:=dc am;rw[List.getD_eq_getElem?_getD,N] at C;replace C:rk<frow.length:=C;obtain⟨ur,Mr,A,B,bg,hOr,ck,bi⟩:=W.from_.at N;subst ck;obtain⟨bb,cc,cells,ee,hu,hM,h3,h4c,h5,h6c⟩:=hOr.cell oM;subst hM;replace ar:=ar.pull (X:=[(bb,.row cells ee false)]) .AN;replace ar:H O K5 ((bb,.row cells ee false)::((A++B)++_)):=ar;have cw:ra<=4:=by rw[a1] at am;omega
    refine ah Z Z (W3 2 Z) Z<|ah Z Z (W4 Z ar.pop.bG.g0 Z) Z<|wQ 1 Z<|WW (e:=87) (m:=2) hr5 a2 Z Z Z Z Z (fun dl cx bl c0 bm=>?_);obtain rfl:=bm;refine dN bl Z Z Z Z (k:=0) U (lb Z) (fun _=>Z) (fun dm bo=>?_);refine ah Z Z (W7 ar bo Z Z) Z<|ah Z Z (ay (v:=nI ra) Z Z<|cI (by rw[Q];exact fD oM)) Z<|WW (e:=42) (m:=1) (W.o2.fg (K:=K5) m2) bg Z Z Z Z Z (fun dr c1 bp c2 bq=>?_);obtain⟨rfl,hr44c,hr44l⟩:=bq;refine ah Z Z (W7 ar bp Z Z) Z<|wQ 1 Z<|WW (e:=87) (m:=2) hr5 a2 Z Z Z Z Z (fun ds c3 bs c4 bt=>?_);obtain rfl:=bt;refine dN bs Z Z Z Z (k:=1) U (lb Z) (fun _=>Z) (fun dx bv=>?_);refine ah Z Z (W7 ar bv Z Z) Z<|Wj 2 Z<|WW (e:=87) (m:=2) hS5 hs Z Z Z Z Z (fun d0 c5 bw c6 bD=>?_);obtain rfl:=bD;refine ah Z Z (W8 ar bw Z Z) Z<|ah Z Z (eH (e:=87) (m:=2) Z U (congrArg some hu) (by rw[Q];rfl) C) Z (eF ar .here Z Z (gn Z Z Z ar.g0 (m:=2) U Z (show 0+rk*2+2<=cells.length by rw[h3];omega) Z) Z (fun O ar=>?_));refine⟨aT,?_⟩;rw[nA_] at ar;have hOr2:=wS (b:=bb) h3 h4c h5 h6c (i:=rk) C (y:=s) (vs:=[.int .i64 s.bH,.int .i64 s.index]) Z Z;rw[<-hu] at hOr2;have hF2:=bi _ _ _ hOr2;rw[rH bg] at hF2;have cl:(dj (eS threads) (iB threads) pre).set ra (frow.set rk s)=dj (eS threads) (iB threads) (pre++[s]):=by rw[vU (r:=rr) (by rw[aa];exact ab)];unfold fU;rw[e1,e2,List.getD_eq_getElem?_getD,N];rfl
    replace hF2:eX 2 87 dK ((dj (eS threads) (iB threads) pre).set ra<|frow.set rk s) ci _:=hF2;rw[cl] at hF2;replace ar:=ar.push (X:=[_]) (L:=(A++([_]++B))++_) .AN;refine VB 2 Z<|aL (l:=zp [0,1,2,3,4,5,6,7]) U U<|wQ 1 Z<|ah Z Z (Xd Z ar.bG.g0 Z) Z<|wQ 1 Z<|wc (e:=87) (m:=2) (k:=1) hr5 (Nat.succ_le_succ<|Nat.zero_le _) Z Z Z U U Z Z (fun _=>Z) (fun cn b0=>?_);refine Wj 2 Z ?_;obtain⟨K6,z,mF,ar⟩:=ar.bF (M:=A++([_]++B));replace ar:=ar.pop;have hK:=KP.le_trans ac z;have co:dS K6 ⟨init,threads,dj (eS threads) (iB threads) (pre++[s]),List.replicate init.length []⟩ q0 q1 q2 q3:=⟨W.init.fg fun e he=>z _ _ (m0 e he),gO (W.o1.fS ub) W.threads (fun e he=>z _ _ (m1 e he)) (fun e he=>z _ _ (j1 e he)),gO (W.o2.fS ub) hF2 (fun e he=>z _ _ (m2 e he)) mF,gO (W.o3.fS ub) W.order (fun e he=>z _ _ (m3 e he)) (fun e he=>z _ _ (j3 e he))⟩;have hroom:=wZ (f:=(fun s=>rV init threads (k+1) (pre++[s]))) (p:=gI m) (T:=S) (pre:=S.take i) (o:=s) ⟨S.drop (i+1),by rw[<-e6 hs,List.take_append_drop]⟩ (by rw[DN hS] at hb;exact hb);refine ed Z Z (W2 Z Z Z) (fun _=>Z) (ih (k+1) K6 (pre++[s]) q0 q1 q2 q3 cn _ u4 M4 _ oM (by rw[lA_,aa];rfl) co (b0.mono z fun _ _ h=>h) (hO4.fS fun _ _ h=>h.mono hK) hroom ar) ?_;rintro cp O ⟨K7,M7,b3,hA7,ar⟩;refine⟨aT,?_⟩;refine Wi 2 Z<|az<|Wd 5 Z<|aD ⟨j4-1,(by have:=aM R;omega),oF,i+1,K7,cp,M7,(by have:=aM R;omega),KP.le_trans E<|KP.le_trans hK b3,(by rw[e6 hs,List.flatMap_append,List.filter_append,<-lQ_,List.flatMap_singleton];exact hA7),Z,cI<|aX (by have:=aM R;omega),ar⟩
   refine UH 3 Z<|aN<|Vx 8 Z ?_;exact aA Z Z ⟨K4,M4,KP.le_trans hle02 E,(by rw[DN hS,<-tL_ (bK R)];exact hO4),ar⟩
  exact absurd (S6 ba)<|Nat.succ_ne_zero _
variable {ops:Array Oper}
section
variable {P:Program} {G:Cx} {n:Nat} {t:PT V} {O:aB} {Q:Ex->PT V->aB->Prop}
theorem Ez {ih:jY} {ops:Array Oper} {d:List DE} {l2:List Oper}:∀{l1:List Oper} {t:PT V} {O:aB} {t':PT V} {O':aB},oY P G ih ops n d l1 t O= .ok .normal t' d O'->oY P G ih ops n d (l1++l2) t O=oY P G ih ops n d l2 t' O'
 | [],t,O,t',O',h=>by
  replace h:CR.ok .normal t d O= .ok .normal t' d O':=h;cases h;rfl
 | o::l1,t,O,t',O',h=>by
  replace h:iy P G ih true ops n o t O (oY P G ih ops n d l1)= .ok .normal t' d O':=h;show iy P G ih true ops n o t O (oY P G ih ops n d (l1++l2))=_;unfold iy MU at*
  repeat' split at h
  all_goals first
   | (simp_all;done)
   | (have:=Ez (l2:=l2) h;simp_all)
theorem iF {l:List Oper} (k:Nat) (W:List Nat) (I:PT V->aB->Prop) (h1:bZ P G ops n (l.take k) t O (S0 W t I)) (u:∀t' O',aY W t t'->I t' O'->bZ P G ops n (l.drop k) t' O' Q):bZ P G ops n l t O Q:=by
 obtain⟨K,e,t',O',z,rfl,A,h5⟩:=h1;obtain⟨B,e2,C,E,L,M⟩:=u t' O' A h5;refine⟨max K B,e2,C,E,fun d j hj=>?_,M⟩;have h8:=Ez (l2:=l.drop k) (z d j oM);rw[List.take_append_drop] at h8;rw[h8];exact L d j oM
end
variable {vi vt:V}
theorem E4 {os:List α} {f x:Nat} {o z:α} (h:os.length=x):(os++List.replicate (f+1) z).set x o=(os++[o])++List.replicate f z:=by
 rw[List.set_append_right _ _ oM,h,Nat.sub_self,lQ_];rfl
theorem SV (Q:Plain G) {init:List Int} (hi:bO K 1 ek init vi) (n:Nat) (ar:H O K L):
  EC G 57 [vi,nI n] O fun v O'=>((bif dH 6 (.ofNat init.length) then true else dH 4 (.ofNat n))=true/\v= .tuple [.agg [.av,.av,.av,.av],.int .i64 3]/\H O' K L)∨((bif dH 6 (.ofNat init.length) then true else dH 4 (.ofNat n))=false/\∃M N A B C,v= .tuple [.agg [M,.slice A 0 n (.known n),.slice B 0 n (.known n),.slice C 0 init.length (.known init.length)],D]/\cy 1 2 ek init M N/\H O' K (N++((C,.row (List.replicate init.length .av) 42 false)::(B,.row (List.replicate n .av) 42 false)::(A,.row (List.replicate n .av) 25 false)::L))):=by
 refine V9 Q Tryz.func57 Z<|Vw 2 Z<|kb ar (W6 (cs:=[.av,.av,.av,.av])) (fun O b1 ar=>?_);refine TE 8 Z<|ky Z (an Z) (fun E=>?_) (fun E=>?_)
 ·refine UK 9 Z (J Z (W1 (places:=[(0,1),(1,1),(2,1),(3,1)]) (zero:=[.av,.av,.av,.av]) (cs:=[_,_,_,_]) Z) Z<|ks ar (Sx Z Z Z ar.g0 (m:=4) Z Z (cells':=[_,_,_,_]) Z) (fun O ar=>?_));refine UM 5 Z ?_;exact cV Z Z ar.g0 (m:=4) U Z Z (.inl ⟨by rw[show dH 4 (.ofNat n)=true from E];cases dH 6 (.ofNat init.length)<;>rfl,rfl,ar.pop⟩)
 refine vQ 1 Z<|J Z (W5 hi Z Z Z (e:=2) Z) Z<|Vy 4 Z<|aG Z (fun d=>?_) (fun d=>?_)
 ·refine Vw 2 Z (J Z (W1 (places:=[(0,1),(1,1),(2,1),(3,1)]) (zero:=[.av,.av,.av,.av]) (cs:=[_,_,_,_]) Z) Z<|ks ar (Sx Z Z Z ar.g0 (m:=4) Z Z (cells':=[_,_,_,_]) Z) (fun O ar=>?_));refine UM 5 Z ?_;exact cV Z Z ar.g0 (m:=4) U Z Z (.inl ⟨by rw[show dH 6 (.ofNat init.length)=true from d];rfl,Z,ar.pop⟩)
 refine UF 9 Z<|aG Z (fun u=>?_) (fun u=>?_)
 ·exact absurd u (by rw[show dH (.ofNat n) 0=false from by rw[dq,decide_eq_false_iff_not];intro h;exact absurd h (by show¬((n:Int)<0);omega)];decide)
 refine UF 3 Z (aL (l:=[(0,[]),(1,[]),(3,[]),(4,[]),(5,[]),(6,[]),(7,[]),(8,[]),(9,[]),(2,[4,6,9]),(10,[]),(11,[]),(12,[])]) U U ?_);have h4t:dH 4 (.ofNat n)=false:=E;have h6i:dH 6 (.ofNat init.length)=false:=d;have aa:init.length<=6:=bK (a:=6) h6i;have ht:n<=4:=bK (a:=4) h4t;refine gx ar Z Z (bN (e:=2) (m:=1) (z:=[D]) (cs:=[]) U U U U bE) (fun _=>Z) (fun O A ar=>?_);replace ar:H O _ ([(A,.row [] 2 false)]++_):=ar;refine Wj 2 Z<|gx ar Z Z (ie (e:=25) (w:=24) (z:=[.av]) U U U U Z Z oM oM) (fun _=>Z) (fun O B ar=>?_);rw[fL] at ar;refine wQ 1 Z<|gx ar Z Z (ie (e:=42) (w:=24) (z:=[.av]) U U U U Z Z oM oM) (fun _=>Z) (fun O C ar=>?_);rw[fL] at ar;refine wQ 1 Z<|ah Z Z (W5 hi Z Z Z (e:=2) Z) Z<|gx ar Z Z (ie (e:=42) (w:=24) (z:=[.av]) U U U U Z Z oM oM) (fun _=>Z) (fun O b5 ar=>?_);rw[fL] at ar;replace ar:=ar.pull (.there (.there (.there<|bu.here (X:=[_]))));refine qx (R:=ek) (m:=1) (e:=2) cy.empty ar hi ek.leaf (by show 0+_<=_;omega) Z Z Z Z Z Z Z Z (fun _=>Z) (fun O ab I hO19 ar=>?_);refine⟨(bj (oC Z Z Z Z Z ((mV (e:=25) (w:=24) (z:=[.av]) U U U U Z Z oM oM).trans (by rw[fL])) ar.bG.pop.pop.g0<|xu _)<|bj (oC Z Z Z Z Z ((mV (e:=42) (w:=24) (z:=[.av]) U U U U Z Z oM oM).trans (by rw[fL])) ar.bG.pop.g0<|xu _)<|bj (oC Z Z Z Z Z ((mV (e:=42) (w:=24) (z:=[.av]) U U U U Z Z oM oM).trans (by rw[fL])) ar.bG.g0<|xu _) aT),?_⟩;refine ah Z Z (cE (places:=[(0,1),(1,1),(2,1),(3,1)]) (zero:=[.av,.av,.av,.av]) (cs:=[_,_,_,_]) U U U (aZ Z Z hO19.leaf.1 Z<|aZ Z Z Z Z<|aZ Z Z Z Z<|aZ Z Z Z Z bE) U) Z<|eF ar (.bV (.there (.there (.there .here)))) Z Z (Sx Z Z Z ar.bG.pop.pop.pop.g0 (m:=4) Z (aj hO19.leaf.2 Z) (cells':=[_,_,_,_]) Z) Z (fun O ar=>?_);refine⟨aT,?_⟩;refine VC 4 Z ?_;have hcell:=ar.bG.pop.pop.pop.g0;replace ar:=ar.pull (.bV (.there (.there<|bu.here (X:=[_]))));rw[za_] at ar;replace ar:=ar.pull (.there (.bV (.there<|bu.here (X:=[_]))));rw[za_] at ar;replace ar:=ar.pull (.there (.there (.bV<|bu.here (X:=[_]))));rw[za_] at ar;replace ar:=ar.pull (.there (.there (.there<|bu.here (X:=I))));replace ar:=ar.pull (.bV (.there (.there (.there<|bu.here (X:=[_])))));rw[za_] at ar
 exact cV Z Z hcell (m:=4) U Z Z (.inr ⟨by rw[show dH 6 (.ofNat init.length)=false from h6i,show dH 4 (.ofNat n)=false from h4t];rfl,_,_,_,_,_,Z,hO19,ar.pop⟩)
theorem vp {e:cm} {n:Int} {q1 q2 q3 q4 q5 d u z:Bool} (h1:q1=(bif dH e.kind 1 then true else dH 4 e.kind)) (B:q2=(bif q1 then true else dH e.loc 0)) (C:q3=(bif q2 then true else(bif !(F e.kind 4) then(bif dH e.loc n then false else true) else false))) (E:q4=(bif q3 then true else dH e.order 1)) (h5:q5=(bif q4 then true else dH 6 e.order)) (I:d=(bif q5 then true else(bif F e.kind 4 then(bif (bif (bif F e.loc 0 then false else true) then true else(bif F e.read 0 then false else true)) then true else(bif F e.write 0 then false else true)) else false))) (M:u=(bif d then true else(bif F e.kind 1 then(bif F e.write 0 then false else true) else false))) (N:z=(bif u then true else(bif F e.kind 2 then(bif F e.read 0 then false else true) else false))):z=cL (bY e n):=by
 subst h1 B C E h5 I M N;rw[dG,cU];simp only[cK,dq]
 by_cases A:e.kind<1
 ·rw[zd_];simp[A]<;>omega
 by_cases Q:4<e.kind
 ·rw[zd_];simp[A,Q]<;>omega
 have hk:e.kind=1∨e.kind=2∨e.kind=3∨e.kind=4:=by omega
 rcases hk with hk | hk | hk | hk<;>rw[zd_]<;>simp[hk]<;>omega
theorem OG (hG:Plain G) {init:List Int} {threads:List (List cm)} (hi:bO K 1 ek init vi) (ht:bO K 1 (RL K 5 gG) threads vt) (ar:H O K L):
  EC G 19 [vi,vt] O fun v O'=>∃K' a b c d,KP.le K K'/\v= .tuple [.agg [a,b,c,d],.int .i64<|fX init threads]/\(fX init threads=0->dS K' ⟨init,threads,eS threads,List.replicate init.length []⟩ a b c d)/\cG a=some [a]/\eB a=true/\cG b=some [b]/\eB b=true/\cG c=some [c]/\eB c=true/\cG d=some [d]/\eB d=true/\H O' K' L:=by
 refine V9 hG Tryz.func19 Z<|Vw 2 Z<|kb ar (W6 (cs:=[.av,.av,.av,.av])) (fun O b1 ar=>?_);refine UK 7 Z<|J Z (W5 ht Z Z Z (e:=25) Z) Z<|kw (W2 Z Z Z) (SV hG hi threads.length ar) ?_;rintro _ O (⟨bd,rfl,ar⟩ | ⟨C,u0,M0,b2,b3,b4,rfl,hI0,ar⟩)
 ·refine Wh 3 Z<|kb ar (W6 (cs:=[.av,.av,.av,.av])) (fun O b2 ar=>?_);refine ks ar (Sx Z Z Z ar.g0 (m:=4) Z Z (cells':=[_,_,_,_]) Z) (fun O ar=>?_);refine UJ 10 Z<|aG Z (fun ao=>?_) (fun ao=>?_)
  ·refine Vw 2 Z (J Z (W1 (places:=[(0,1),(1,1),(2,1),(3,1)]) (zero:=[.av,.av,.av,.av]) (cs:=[_,_,_,_]) Z) Z<|vQ 1 Z<|gw ar Z (Sx Z Z Z ar.g1 (m:=4) Z Z (cells':=[_,_,_,_]) Z) Z (fun O ar=>?_));refine UM 5 Z ?_;exact cV Z Z ar.g1 (m:=4) U Z Z ⟨K,.av,.av,.av,.av,KP.le_refl _,by rw[show fX init threads=3 from by unfold fX;rw[bd];rfl],fun h0=>absurd h0 (by rw[show fX init threads=3 from by unfold fX;rw[bd];rfl];decide),Z,Z,Z,Z,Z,Z,Z,Z,ar.pop.pop⟩
  exact absurd ao (by decide)
 have es:init.length<=6:=by cases h:dH 6 (.ofNat init.length) with
  | true=>rw[h] at C;cases C
  | false=>exact bK (a:=6) h
 have et:threads.length<=4:=by cases h:dH 6 (.ofNat init.length) with
  | true=>rw[h] at C;cases C
  | false=>rw[h] at C;exact bK (a:=4) C
 refine Wh 3 Z<|kb ar (W6 (cs:=[.av,.av,.av,.av])) (fun O b5 ar=>?_);refine ks ar (Sx Z Z Z ar.g0 (m:=4) Z (aj hI0.leaf.2 Z) (cells':=[_,_,_,_]) Z) (fun O ar=>?_);refine UJ 10 Z<|aG Z (fun ao=>?_) (fun ao=>?_)
 ·exact absurd ao (by decide)
 refine TC 9 Z ?_;obtain⟨LL1,ar,hLL1⟩:=ar.named;refine bk ([5,8]++rg 24 13) (fun j t O=>∃(i:Nat),(j+i=threads.length/\(threads.take i).any (fun r:List cm=>dH 14 (.ofNat r.length))=false)/\t.get 8=some (nI i)/\H O K LL1) (threads.length) ⟨0,⟨Z,Z⟩,Z,ar⟩ ?_;clear ar;intro j5 t O ak E;obtain⟨i,⟨ev,ci⟩,df,ar⟩:=E;subst hLL1;obtain⟨oo,rfl⟩:=ak.q1 df Z;refine UE 5 Z<|J Z (W5 ht Z Z Z (e:=25) Z) Z<|Vy 3 Z<|aG Z (fun ab=>?_) (fun ab=>?_)
 ·refine SF 8 Z ?_;obtain⟨ex,N,d2⟩:=di ab;refine WV (e:=25) (m:=1) ht N Z Z Z Z (fun ez d3 ck d4 cl=>?_);have hr32':=cl;obtain⟨e0,rfl,cn⟩:=hr32';refine J Z (W7 ar ck Z Z) Z<|J Z (W5 cn Z Z Z (e:=38) Z) Z<|Vy 3 Z<|aG Z (fun a9=>?_) (fun a9=>?_)
  ·refine Vw 2 Z (J Z (W1 (places:=[(0,1),(1,1),(2,1),(3,1)]) (zero:=[.av,.av,.av,.av]) (cs:=[_,_,_,_]) Z) Z<|iM ar (.there (.bV (.there (.there (.there .here))))) Z (Sx Z Z Z ar.pop.bG.pop.pop.pop.g0 (m:=4) Z Z (cells':=[_,_,_,_]) Z) Z (fun O ar=>?_));refine VA 4 Z<|aP<|aH<|bX<|aP<|aH (?_);exact cV Z Z ar.pop.bG.pop.pop.pop.g0 (m:=4) U Z Z ⟨K,.av,.av,.av,.av,KP.le_refl _,by rw[show fX init threads=3 from by unfold fX;rw[C,lB (p:=fun r:List cm=>dH 14 (.ofNat r.length)) N a9];rfl],fun h0=>absurd h0 (by rw[show fX init threads=3 from by unfold fX;rw[C,lB (p:=fun r:List cm=>dH 14 (.ofNat r.length)) N a9];rfl];decide),Z,Z,Z,Z,Z,Z,Z,Z,ar.pop.bG.pop.pop.pop.pop⟩
  refine aI (az (Wd 5 Z (aD ⟨j5-1,(by have:=aM ab;omega),oF,i+1,⟨by have:=aM ab;omega,nQ N ci a9⟩,cI<|aX (by have:=aM ab;omega),ar⟩)))
 refine UH 3 Z<|aN<|UE 3 Z ?_;have ap:threads.any (fun r:List cm=>dH 14 (.ofNat r.length))=false:=by rw[<-tL_ (bK ab)];exact ci
 have I:∀r∈threads,r.length<=14:=fun r hr=>bK (a:=14) (by have h1:=List.any_eq_false.1 ap r hr;simpa using h1)
 refine UI 4 Z (bk ([5]++rg 9 4++rg 37 118) (fun j t O=>∃(i2 f:Nat) (usT usF:List V) (IT IF:Own),j+i2=threads.length/\f+i2=threads.length/\(threads.take i2).any (fun r:List cm=>r.any fun e=>cL (bY e (.ofNat init.length)))=false/\eX 5 38 gG (threads.take i2) usT IT/\eX 2 87 dK (eS<|threads.take i2) usF IF/\t.get 9=some (nI i2)/\H O K (IT++(IF++((b5,.row [u0,.slice b2 0 threads.length (.known threads.length),.slice b3 0 threads.length (.known threads.length),.slice b4 0 init.length (.known init.length)] 52 false)::(M0++((b4,.row (List.replicate init.length V.av) 42 false)::(b3,.row (usF++List.replicate f V.av) 42 false)::(b2,.row (usT++List.replicate f V.av) 25 false)::(b1,.row [.av,.av,.av,.av] 52 false)::L)))))) (threads.length) ⟨0,threads.length,[],[],[],[],Z,Z,Z,.nil,.nil,Z,ar⟩ ?_);clear ar;intro dk t O ak E;obtain⟨i2,f,usT,usF,IT,IF,d5,e3,aE,ba,bb,dl,ar⟩:=E;obtain⟨oo,rfl⟩:=ak.q1 dl Z;refine UE 5 Z<|J Z (W5 ht Z Z Z (e:=25) Z) Z<|Vy 3 Z<|aG Z (fun B=>?_) (fun B=>?_)
 ·refine SE 5 Z<|Vw 2 Z ?_;obtain⟨row,u⟩:=dc (show i2<threads.length from aM B);obtain⟨f,rfl⟩:∃f0,f=f0+1:=⟨f-1,by have:=aM B;omega⟩;have hlT:=ba.length;have hlF:=bb.length;rw[lT_,Nat.min_eq_left (by have:=aM B;omega)] at hlT;unfold eS at hlF;rw[lM_,lT_,Nat.min_eq_left (by have:=aM B;omega)] at hlF;refine UI 4 Z ?_;obtain⟨LL3,ar,hLL3⟩:=ar.named;refine bk ([5,10,11,12]++rg 43 92) (fun j t O=>∃(q:Nat),(j+q=row.length/\(row.take q).any (fun e:cm=>cL (bY e (.ofNat init.length)))=false)/\t.get 10=some (nI q)/\H O K LL3) (row.length) ⟨0,⟨Z,Z⟩,Z,ar⟩ ?_;clear ar;intro dm t O ak E;obtain⟨q,⟨d6,be⟩,co,ar⟩:=E;subst hLL3;obtain⟨oo,rfl⟩:=ak.q1 co Z;refine UE 6 Z<|WV (e:=25) (m:=1) ht u Z Z Z Z (fun e4 d7 cp d8 cr=>?_);have hr46':=cr;obtain⟨e5,rfl,cv⟩:=hr46';refine J Z (W7 ar cp Z Z) Z<|J Z (W5 cv Z Z Z (e:=38) Z) Z<|Vy 3 Z<|aG Z (fun ac=>?_) (fun ac=>?_)
  ·refine SF 8 Z<|WV (e:=25) (m:=1) ht u Z Z Z Z (fun fd d9 cw ea cx=>?_);have hr54':=cx;obtain⟨fi,rfl,c0⟩:=hr54';refine J Z (W7 ar cw Z Z) Z<|vQ 1 Z ?_;obtain⟨A,Q,ee⟩:=di ac;refine WV (e:=38) (m:=5) c0 Q Z Z Z Z (fun fk ef c1 eg c2=>?_);obtain rfl:=c2;refine J Z (W8 ar c1 Z Z) Z<|kb ar (W6 (cs:=[D,D,D,D,D])) (fun O b6 ar=>?_);refine ks ar (Xb Z Z Z ar.g0 Z) (fun O ar=>?_);refine UQ ar 12 [0,0] Z Z ?_;obtain⟨LO17_0,ar,hLO17_0⟩:=ar.named;refine iF 8 [62,63,64,65,66,67,68,69] (fun t O=>∃q1:Bool,q1=(bif dH A.kind 1 then true else dH 4 A.kind)/\t.get 69=some (.bool q1)/\H O K LO17_0) ?_ ?_
   ·subst hLO17_0;refine Wk ar 3 [0,0] Z Z<|ky Z (an Z) (fun bg=>?_) (fun bg=>?_)
    ·refine Wg 5 Z ?_;exact⟨Z,oF,_,(by simp only[bg,ct,cf]),Z,ar⟩
    refine Wk ar 4 [0,0] Z Z<|af ?_;exact⟨Z,oF,_,(by simp only[bg,ct,cf]),Z,ar⟩
   clear ar;intro t O ak E;obtain⟨q1,bi,c3,ar⟩:=E;subst hLO17_0;obtain⟨oo,rfl⟩:=ak.q1 c3 Z;obtain⟨LO17_8,ar,hLO17_8⟩:=ar.named;refine iF 5 [70,71,72,73,74] (fun t O=>∃q2:Bool,q2=(bif q1 then true else dH A.loc 0)/\t.get 74=some (.bool q2)/\H O K LO17_8) ?_ ?_
   ·subst hLO17_8;refine ky Z (an Z) (fun bl=>?_) (fun bl=>?_)
    ·refine Wg 5 Z ?_;exact⟨Z,oF,_,(by simp only[bl,ct,cf]),Z,ar⟩
    refine Wk ar 4 [1,0] Z Z<|af ?_;exact⟨Z,oF,_,(by simp only[bl,ct,cf]),Z,ar⟩
   clear ar;intro t O ak E;obtain⟨q2,bm,c4,ar⟩:=E;subst hLO17_8;obtain⟨oo,rfl⟩:=ak.q1 c4 Z;obtain⟨LO17_13,ar,hLO17_13⟩:=ar.named;refine iF 11 [75,76,77,78,79,80,81,82,83,84,85] (fun t O=>∃q3:Bool,q3=(bif q2 then true else(bif !(F A.kind 4) then(bif dH A.loc (.ofNat init.length) then false else true) else false))/\t.get 85=some (.bool q3)/\H O K LO17_13) ?_ ?_
   ·subst hLO17_13;refine ky Z (an Z) (fun bc=>?_) (fun bc=>?_)
    ·refine Wg 11 Z ?_;exact⟨Z,oF,_,(by simp only[bc,ct,cf]),Z,ar⟩
    refine vQ 1 Z<|J Z (dW Z) Z<|ky Z (an Z) (fun bo=>?_) (fun bo=>?_)
    ·refine Wk ar 3 [1,0] Z Z<|J Z (W5 hi Z Z Z (e:=2) Z) Z<|Wg 4 Z ?_;exact⟨Z,oF,_,(by simp only[bc,bo,ct,cf]),Z,ar⟩
    refine Wg 8 Z ?_;exact⟨Z,oF,_,(by simp only[bc,bo,ct,cf]),Z,ar⟩
   clear ar;intro t O ak E;obtain⟨q3,bp,c5,ar⟩:=E;subst hLO17_13;obtain⟨oo,rfl⟩:=ak.q1 c5 Z;obtain⟨LO17_24,ar,hLO17_24⟩:=ar.named;refine iF 5 [86,87,88,89,90] (fun t O=>∃q4:Bool,q4=(bif q3 then true else dH A.order 1)/\t.get 90=some (.bool q4)/\H O K LO17_24) ?_ ?_
   ·subst hLO17_24;refine ky Z (an Z) (fun bq=>?_) (fun bq=>?_)
    ·refine Wg 5 Z ?_;exact⟨Z,oF,_,(by simp only[bq,ct,cf]),Z,ar⟩
    refine Wk ar 4 [2,0] Z Z<|af ?_;exact⟨Z,oF,_,(by simp only[bq,ct,cf]),Z,ar⟩
   clear ar;intro t O ak E;obtain⟨q4,bs,c6,ar⟩:=E;subst hLO17_24;obtain⟨oo,rfl⟩:=ak.q1 c6 Z;obtain⟨LO17_29,ar,hLO17_29⟩:=ar.named;refine iF 5 [91,92,93,94,95] (fun t O=>∃q5:Bool,q5=(bif q4 then true else dH 6 A.order)/\t.get 95=some (.bool q5)/\H O K LO17_29) ?_ ?_
   ·subst hLO17_29;refine ky Z (an Z) (fun bt=>?_) (fun bt=>?_)
    ·refine Wg 5 Z ?_;exact⟨Z,oF,_,(by simp only[bt,ct,cf]),Z,ar⟩
    refine Wk ar 4 [2,0] Z Z<|af ?_;exact⟨Z,oF,_,(by simp only[bt,ct,cf]),Z,ar⟩
   clear ar;intro t O ak E;obtain⟨q5,bv,c7,ar⟩:=E;subst hLO17_29;obtain⟨oo,rfl⟩:=ak.q1 c7 Z;obtain⟨LO17_34,ar,hLO17_34⟩:=ar.named;refine iF 18 [96,97,98,99,100,101,102,103,104,105,106,107,108,109,110,111,112,113] (fun t O=>∃q6:Bool,q6=(bif q5 then true else(bif F A.kind 4 then(bif (bif (bif F A.loc 0 then false else true) then true else(bif F A.read 0 then false else true)) then true else(bif F A.write 0 then false else true)) else false))/\t.get 113=some (.bool q6)/\H O K LO17_34) ?_ ?_
   ·subst hLO17_34;refine ky Z (an Z) (fun am=>?_) (fun am=>?_)
    ·refine Wg 18 Z ?_;exact⟨Z,oF,_,(by simp only[am,ct,cf]),Z,ar⟩
    refine vQ 1 Z<|ky Z (an Z) (fun a0=>?_) (fun a0=>?_)
    ·refine Wk ar 3 [1,0] Z Z<|ky Z (an Z) (fun S=>?_) (fun S=>?_)
     ·refine Wg 12 Z ?_;exact⟨Z,oF,_,(by simp only[am,a0,S,ct,cf]),Z,ar⟩
     refine Wk ar 4 [3,0] Z Z<|ky Z (an Z) (fun a1=>?_) (fun a1=>?_)
     ·refine Wg 7 Z ?_;exact⟨Z,oF,_,(by simp only[am,a0,S,a1,ct,cf]),Z,ar⟩
     refine Wk ar 6 [4,0] Z Z<|af ?_;exact⟨Z,oF,_,(by simp only[am,a0,S,a1,ct,cf]),Z,ar⟩
    refine Wg 16 Z ?_;exact⟨Z,oF,_,(by simp only[am,a0,ct,cf]),Z,ar⟩
   clear ar;intro t O ak E;obtain⟨q6,bw,bD,ar⟩:=E;subst hLO17_34;obtain⟨oo,rfl⟩:=ak.q1 bD Z;obtain⟨LO17_52,ar,hLO17_52⟩:=ar.named;refine iF 10 [114,115,116,117,118,119,120,121,122,123] (fun t O=>∃q7:Bool,q7=(bif q6 then true else(bif F A.kind 1 then(bif F A.write 0 then false else true) else false))/\t.get 123=some (.bool q7)/\H O K LO17_52) ?_ ?_
   ·subst hLO17_52;refine ky Z (an Z) (fun T=>?_) (fun T=>?_)
    ·refine Wg 10 Z ?_;exact⟨Z,oF,_,(by simp only[T,ct,cf]),Z,ar⟩
    refine Wk ar 3 [0,0] Z Z<|ky Z (an Z) (fun a2=>?_) (fun a2=>?_)
    ·refine Wk ar 5 [4,0] Z Z<|af ?_;exact⟨Z,oF,_,(by simp only[T,a2,ct,cf]),Z,ar⟩
    refine Wg 6 Z ?_;exact⟨Z,oF,_,(by simp only[T,a2,ct,cf]),Z,ar⟩
   clear ar;intro t O ak E;obtain⟨q7,bH,b0,ar⟩:=E;subst hLO17_52;obtain⟨oo,rfl⟩:=ak.q1 b0 Z;obtain⟨LO17_62,ar,hLO17_62⟩:=ar.named;refine iF 10 [124,125,126,127,128,129,130,131,132,133] (fun t O=>∃q8:Bool,q8=(bif q7 then true else(bif F A.kind 2 then(bif F A.read 0 then false else true) else false))/\t.get 133=some (.bool q8)/\H O K LO17_62) ?_ ?_
   ·subst hLO17_62;refine ky Z (an Z) (fun W=>?_) (fun W=>?_)
    ·refine Wg 10 Z ?_;exact⟨Z,oF,_,(by simp only[W,ct,cf]),Z,ar⟩
    refine Wk ar 3 [0,0] Z Z<|ky Z (an Z) (fun a3=>?_) (fun a3=>?_)
    ·refine Wk ar 5 [3,0] Z Z<|af ?_;exact⟨Z,oF,_,(by simp only[W,a3,ct,cf]),Z,ar⟩
    refine Wg 6 Z ?_;exact⟨Z,oF,_,(by simp only[W,a3,ct,cf]),Z,ar⟩
   clear ar;intro t O ak E;obtain⟨q8,b8,b9,ar⟩:=E;subst hLO17_62;obtain⟨oo,rfl⟩:=ak.q1 b9 Z;refine Vy 2 Z<|aG Z (fun aa=>?_) (fun aa=>?_)
   ·refine Vw 2 Z (J Z (W1 (places:=[(0,1),(1,1),(2,1),(3,1)]) (zero:=[.av,.av,.av,.av]) (cs:=[_,_,_,_]) Z) Z<|iM ar (.there (.bV (.bV (.there (.bV (.there (.there (.there .here)))))))) Z (Sx Z Z Z ar.pop.bG.bG.pop.bG.pop.pop.pop.g0 (m:=4) Z Z (cells':=[_,_,_,_]) Z) Z (fun O ar=>?_));refine VA 4 Z<|aP<|aH<|bX<|aP<|aH<|aP<|aH<|bX<|aP<|aH (?_);exact cV Z Z ar.pop.bG.bG.pop.bG.pop.pop.pop.g0 (m:=4) U Z Z ⟨K,.av,.av,.av,.av,KP.le_refl _,by rw[show fX init threads=2 from by unfold fX;rw[C,ap,lB (p:=fun r:List cm=>r.any fun e=>cL (bY e (.ofNat init.length))) u<|lB Q ((vp bi bm bp bs bv bw bH b8).symm.trans aa)];rfl],fun h0=>absurd h0 (by rw[show fX init threads=2 from by unfold fX;rw[C,ap,lB (p:=fun r:List cm=>r.any fun e=>cL (bY e (.ofNat init.length))) u<|lB Q ((vp bi bm bp bs bv bw bH b8).symm.trans aa)];rfl];decide),Z,Z,Z,Z,Z,Z,Z,Z,ar.pop.bG.bG.pop.bG.pop.pop.pop.pop⟩
   refine aI<|az<|Wd 5 Z ?_;have ar:=ar.pop;refine aD ⟨dm-1,(by have:=aM ac;omega),oF,q+1,⟨by have:=aM ac;omega,nQ Q be ((vp bi bm bp bs bv bw bH b8).symm.trans aa)⟩,cI (aX (by have:=aM ac;have:=I _ (gB_ u);omega)),ar⟩
  refine UH 3 Z (aN (ad (al (aL (l:=[(0,[]),(1,[]),(2,[]),(3,[]),(4,[]),(5,[]),(6,[]),(7,[]),(8,[1]),(9,[]),(10,[])]) U U<|ah Z Z (W3 1 Z) Z<|ah Z Z (W4 Z ar.bG.bG.g0 Z) Z<|wQ 1 Z<|gx ar Z Z (bN (e:=38) (m:=5) (z:=[D,D,D,D,D]) (cs:=[]) U U U U bE) (fun _=>Z) (fun O b6 ar=>?_)))));replace ar:H O _ ([(b6,.row [] 38 false)]++_):=ar;refine Wj 2 Z<|WW (e:=25) (m:=1) ht u Z Z Z Z Z (fun el dr ca ds cb=>?_);have hr141':=cb;obtain⟨em,rfl,cc⟩:=hr141';refine ah Z Z (W7 ar ca Z Z) Z (qx (R:=gG) (m:=5) (e:=38) cy.empty ar cc gG.leaf (by have:=I _ (gB_ u);show 0+_<=_;omega) Z Z Z Z Z Z Z Z (fun _=>Z) (fun O c8 a4 hO143 ar=>?_));refine⟨(bj (bx Z Z Z Z Z (W4 Z ar.bG.bG.bG.g0 Z)<|HE _ _ _ _) aT),?_⟩;refine ah Z Z (eH (e:=25) (m:=1) Z U Z Z<|aM B) Z<|eF ar (.bV (.bV (.bV (.there (.bV (.there (.there .here))))))) Z Z (gn Z Z hO143.leaf.1 ar.bG.bG.bG.pop.bG.pop.pop.g0 (m:=1) U Z (by rw[lA_,List.length_replicate,hlT];omega)<|aj hO143.leaf.2 aC) Z (fun O ar=>?_);refine⟨aT,?_⟩;rw[mM (by rw[lA_,List.length_replicate,hlT];omega),E4 hlT] at ar;refine VB 2 Z<|aL (l:=zp [0,1,2,3,4,5,6,7,8,9,10]) U U<|ah Z Z (W3 2 Z) Z<|ah Z Z (W4 Z ar.bG.bG.bG.g0 Z) Z<|Wj 3 Z<|WW (e:=25) (m:=1) ht u Z Z Z Z Z (fun en dx cd d0 ce=>?_);have hr150':=ce;obtain⟨er,rfl,ch⟩:=hr150';refine ah Z Z (W7 ar cd Z Z) Z (ah Z Z (W5 ch Z Z Z (e:=38) Z) Z (gx ar Z Z (ie (e:=87) (w:=16) (z:=[D,D]) U U U U Z Z (by have:=I _ (gB_ u);omega) (by have:=I _ (gB_ u);omega)) (fun _=>Z) (fun O b7 ar=>?_)));obtain⟨MZ,d1,ar⟩:∃MZ:Own,MZ= [(b7,.row (e9 [D,D] row.length) 87 false)]/\H O K (MZ++_):=⟨_,Z,ar⟩;have hZ:cy 2 87 dK (List.replicate row.length ⟨0,0⟩) (.slice b7 0 row.length (.known row.length)) MZ:=by rw[d1];exact FD (by have:=I _ (gB_ u);omega)
  refine ah Z Z (eH (e:=42) (m:=1) Z U Z Z<|aM B) Z<|eF ar (.bV (.bV (.bV (.bV (.there (.bV (.there .here))))))) Z Z (gn Z Z hZ.leaf.1 ar.bG.bG.bG.bG.pop.bG.pop.g0 (m:=1) U Z (by rw[lA_,List.length_replicate,hlF];omega)<|aj hZ.leaf.2 aC) Z (fun O ar=>?_);refine⟨aT,?_⟩;rw[mM (by rw[lA_,List.length_replicate,hlF];omega),E4 hlF] at ar;refine aV<|az<|Wd 5 Z ?_;replace ar:=ar.pull (.bV (.bV (.bV (.bV (.there (.bV (.there (.there (.there<|bu.here (X:=[_]))))))))));rw[za_] at ar;replace ar:=ar.pull (.there (.bV (.bV (.bV (.bV (.there (.bV (.there (.there<|bu.here (X:=[_]))))))))));rw[za_] at ar;replace ar:=ar.pull (.there (.there (.bV (.bV (.bV (.bV (.there (.bV (.there<|bu.here (X:=[_]))))))))));rw[za_] at ar;replace ar:=ar.pull (.there (.there (.there (.bV (.bV (.bV (.bV (.there (.bV<|bu.here (X:=[_]))))))))));rw[za_] at ar;replace ar:=ar.pull (.there (.there (.there (.there (.bV (.bV (.bV (.bV (.there<|bu.here (X:=M0))))))))));replace ar:=ar.pull (.bV (.there (.there (.there (.there (.bV (.bV (.bV (.bV<|bu.here (X:=[_]))))))))));rw[za_] at ar;replace ar:=ar.pull (.there (.bV (.there (.there (.there (.there (.bV (.bV (.bV<|bu.here (X:=IF))))))))));replace ar:=ar.pull (.bV (.there (.bV (.there (.there (.there (.there<|bu.here (X:=MZ))))))));replace ar:=ar.pull (.bV (.bV (.there (.bV (.there (.there (.there (.there (.bV<|bu.here (X:=IT))))))))));replace ar:=ar.pull (.bV (.bV (.bV (.there (.bV (.there (.there (.there (.there<|bu.here (X:=a4))))))))));rw[<-lQ_ a4 IT,<-lQ_ MZ IF] at ar;refine aD ⟨dk-1,(by have:=aM B;omega),oF,i2+1,f,usT++[c8],usF++[.slice b7 0 row.length (.known row.length)],a4++IT,MZ++IF,(by have:=aM B;omega),oM,nQ u aE (by rw[<-tL_ (bK ac)];exact be),(by rw[e6 u];exact .snoc ba hO143),(by unfold eS;rw[e6 u,List.map_append];show eX _ _ _ (_++[row.map fun _=>_]) _ _;rw[List.map_const'];exact .snoc bb hZ),cI<|aX (by have:=aM B;omega),ar⟩
 refine UH 3 Z<|aN<|Vw 2 Z<|J Z (Xd Z ar.bG.bG.g0 Z) Z<|iM ar (.bV (.bV (.there (.bV (.there (.there (.there .here))))))) Z (Sx Z Z Z ar.bG.bG.pop.bG.pop.pop.pop.g0 (m:=4) Z (aj hI0.leaf.2 Z) (cells':=[_,_,_,_]) Z) Z (fun O ar=>?_);refine VA 4 Z ?_;obtain rfl:f=0:=by have:=bK B;omega
 replace ar:=ar;rw[List.replicate_zero,zk_,zk_] at ar;rw[tL_<|bK B] at ba bb aE;have hE:fX init threads=0:=by unfold fX;rw[C,ap,aE];rfl
 have hcell:=ar.bG.bG.pop.bG.pop.pop.pop.g0;replace ar:=ar.pull (.bV (.bV (.there (.bV (.there (.there (.there<|bu.here (X:=[_]))))))));rw[za_] at ar;replace ar:=ar.pull (.there (.bV (.bV<|bu.here (X:=[_]))));rw[za_] at ar;replace ar:=ar.pull (.there (.there (.bV (.bV (.bV (.there (.there<|bu.here (X:=[_]))))))));rw[za_] at ar;replace ar:=ar.pull (.there (.there (.there (.bV (.bV (.bV (.there<|bu.here (X:=[_]))))))));rw[za_] at ar;replace ar:=ar.pull (.there (.there (.there (.there (.bV (.bV (.bV<|bu.here (X:=[_]))))))));rw[za_] at ar;replace ar:=ar.pull (.there (.there (.there (.there (.there (.bV (.bV<|bu.here (X:=M0))))))));replace ar:=ar.pull (.bV (.there (.there (.there (.there (.there (.bV<|bu.here (X:=IF))))))));replace ar:=ar.pull (.bV (.bV (.there (.there (.there (.there (.there<|bu.here (X:=IT))))))));obtain⟨K1,c9,mT,ar⟩:=ar.bF (M:=IT);obtain⟨K2,dd,mF,ar⟩:=ar.bF (M:=IF);obtain⟨K3,bf,mI,ar⟩:=ar.bF (M:=M0);obtain⟨K4,a5,mB,ar⟩:=ar.bF (M:=[_,_,_]);have h14T:=KP.le_trans dd (KP.le_trans bf a5);have h14F:=KP.le_trans bf a5
 have I:∀r∈threads,r.length<=14:=fun r hr=>by
  obtain⟨i,hi,rfl⟩:=List.getElem_of_mem hr;have h1:=List.any_eq_false.1 ap _ hr;exact bK (a:=14) (by simpa using h1)
 have hg:dS K4 ⟨init,threads,eS threads,List.replicate init.length []⟩ u0 (.slice b2 0 threads.length (.known threads.length)) (.slice b3 0 threads.length (.known threads.length)) (.slice b4 0 init.length (.known init.length)):=⟨hI0.fg fun e he=>a5 _ _ (mI e he),ba.fg (fun e he=>h14T _ _ (mT e he)) (mB _ (.tail _ (.tail _ (.head _)))) Z (by show threads.length<=_;omega),bb.fg (fun e he=>h14F _ _ (mF e he)) (mB _ (.tail _ (.head _))) (by unfold eS;rw[lM_]) (by unfold eS;rw[lM_];omega),JE (mB _ (.head _)) oM⟩;exact cV Z Z ar.g1 (m:=4) U Z Z ⟨K4,_,_,_,_,KP.le_trans c9 h14T,by rw[hE],fun _=>hg,hI0.leaf.1,hI0.leaf.2,Z,Z,Z,Z,Z,Z,ar.pop.pop⟩
variable {ts:Array TypeId} {cl:Call} {e:Nat} {so xo:Operand} {M:Own} {N v2:V}
section
variable {α:Type} {m E:Nat} {R:α->List V->Prop}
section
variable {P:Program} {K:KP} {L:Own}
theorem JX {l l2:List α} {t:TypeId} {O:aB} (ho:sx m e R l u M) (ar:H O K (M++L))
  (hx:bO K m R l2 v2) (d:∀x vs,R x vs->cM vs=true) (hn:l2.length<=20000) (hl:l.length<=1000000)
  (X:ts[0]? =some t) (hu:P.underlying t=some (.slice e)) (N:rN P e m=true) (h2:ei P ts[1]? =true):
  ∃O' u' M',gd P O ts u v2= .val u' O'/\sx m e R (l++l2) u' M'/\H O' K (M'++L):=by
 have hk:=ar;have A:H O K (M++L):=ar;rcases ho with ⟨rfl,rfl,rfl⟩ | ⟨b,c,cells,e',rfl,rfl,h3,h4,h5,h6⟩
 ·cases l2 with
  | nil=>exact⟨O,_,[],Bx hk hx d X hu N h2,.inl ⟨Z,Z,Z⟩,hk⟩
  | cons x0 l2=>
   obtain⟨news,k1,k2,k3⟩:=By (P:=P) hk hx d oM (by simp) X hu N h2;exact⟨_,_,[(O.next,.row news e false)],k1,.inr ⟨_,_,news,e,Z,Z,by simp_all,k3,.inr ⟨Z,Z⟩,by grind⟩,hk.alloc (.row news e false)⟩
 obtain⟨news,s1,s2,s3,s4⟩:=oB hk hx d;unfold rN at N;split at N
 ·rename_i j hj;simp only[bA_] at N;obtain⟨a1,a2,a3,a4⟩:=N;have hm:j.size=m:=nB a1;subst hm;have hz:((P.info? e).any fun j=>(j.zero.bind qq).any fun z=>(cG z).any fun cs=>Nat.beq (dU cs) j.size)=true:=by rw[hj];exact a4
  have hb:=A.get 0 Z;have hlen:(l++l2).length=l.length+l2.length:=lA_;have hmul:(l.length+l2.length)*j.size=l.length*j.size+l2.length*j.size:=Nat.add_mul ..;unfold gd;rw[X];dsimp only;rw[hu];dsimp only;rw[hj];dsimp only;rw[h2,a2,a3];simp only[Bool.and_self,cond_true];rw[s1];dsimp only;rw[hj] at hz;rw[s3,show Nat.ble l2.length 1048576=true by rw[nE_];omega,hz];simp only[Bool.and_self,cond_true];have hle:Nat.ble (0+l.length*j.size) (dU cells)=true:=by rw[nE_,db];omega
  have B:takeN (eA cells 0) (l.length*j.size)=cells.take (l.length*j.size):=by rw[ej,eN,List.drop_zero]
  have S:Nat.ble l.length 1048576=true:=by simp_all
  have hA:(cells.take (l.length*j.size)).length=l.length*j.size:=by simp_all
  have aa:l.length*j.size+news.length<=cells.length->dJ news cells (0+l.length*j.size)=cells.take (l.length*j.size)++(news++cells.drop (l.length*j.size+news.length)):=fun hh=>by
   rw[nA_,lZ _ _ _ oM,lQ_]
  have T:l.length*j.size+news.length<=cells.length->∀c',((∃n,c'=rK.known n/\(l++l2).length<=n/\n*j.size<=cells.length)∨(c'=rK.upto j.size/\e'=e))->sx j.size e R (l++l2) (.slice b 0 (l.length+l2.length) c') [(b,.row (dJ news cells (0+l.length*j.size)) e' false)]:=fun hh c' I=>by
   have ab:(dJ news cells (0+l.length*j.size)).length=cells.length:=by
    grind
   refine .inr ⟨b,c',_,e',by rw[hlen],Z,by simp_all,?_,by rw[ab];exact I,by rw[hlen];omega⟩;rw[aa hh];exact Ac h3 h4 s2 s4
  have W:sx j.size e R (l++l2) (.slice O.next 0 (l.length+l2.length) (.upto j.size)) [(O.next,.row (cells.take (l.length*j.size)++news) e false)]:=by
   refine .inr ⟨_,_,_,e,by rw[hlen],Z,by simp_all,?_,.inr ⟨Z,Z⟩,by rw[hlen];omega⟩;have:=Ac (Zv:=[]) h3 h4 s2 s4
   simp_all
  rcases h5 with ⟨n,rfl,h7,h8⟩ | ⟨rfl,rfl⟩
  ·dsimp only;cases hc:Nat.ble (l.length+l2.length) n with
   | true=>
    have I:l.length+l2.length<=n:=by simp_all
    have C:l.length*j.size+news.length<=cells.length:=by
     have:(l.length+l2.length)*j.size<=n*j.size:=nM_ _ I;rw[s2];omega
    simp only[cond_true];rw[hb];dsimp only;rw[show Nat.ble (0+l.length*j.size+dU news) (dU cells)=true by rw[nE_,db,db];omega];simp only[cond_true];exact⟨_,_,[(b,_)],Z,T C _ (.inl ⟨n,Z,by rw[hlen];exact I,h8⟩),A.ui _⟩
   | false=>
    simp only[cond_false];rw[hb];dsimp only;rw[hle,S,B,ep];simp only[Bool.and_self,cond_true];exact⟨_,_,[(O.next,_)],Z,W,((A.alloc _).perm<|List.Perm.swap ..).pop⟩
  dsimp only;cases h0:Nat.beq l2.length 0 with
  | true=>
   have e0:l2= []:=eN_ (nB h0);subst e0;rw[Nat.beq_refl,S];simp only[Bool.and_self,cond_true,cond_false];exact⟨O,_,[(b,.row cells e' false)],Z,by rw[zk_];exact .inr ⟨b,.upto j.size,cells,e',Z,Z,h3,h4,.inr ⟨Z,Z⟩,h6⟩,A⟩
  | false=>
   rw[Nat.beq_refl,S];simp only[Bool.and_self,cond_true,cond_false];rw[hb];dsimp only;cases hf:(Nat.ble 1 l.length && Nat.ble (0+l.length*j.size+dU news) (dU cells)) with
   | true=>
    have C:l.length*j.size+news.length<=cells.length:=by
     rw[bA_,nE_,nE_,db,db] at hf;omega
    simp only[cond_true];exact⟨_,_,[(b,_)],Z,T C _ (.inr ⟨Z,Z⟩),A.ui _⟩
   | false=>
    simp only[cond_false];rw[hle,Nat.beq_refl,B,ep];simp only[Bool.and_self,cond_true];exact⟨_,_,[(O.next,_)],Z,W,A.CK _⟩
 cases N
end
end
section
variable {P:Program} {G:Cx} {n:Nat} {t:PT V} {O:aB} {K:KP} {L:Own} {Q:Ex->PT V->aB->Prop} {ops:Array Oper} {o:Oper} {l:List Oper} {lp:List (Nat×List Nat)} {ix:Nat} {rc:List Nat}
theorem CA {α:Type} {m:Nat} {R:α->List V->Prop} {la l2:List α} {ty:TypeId} {t':V->PT V} (T:sx m e R la u M) (W:H O K (M++L)) (hx:bO K m R l2 N) (d:∀x vs,R x vs->cM vs=true) (hn:l2.length<=20000) (hl:la.length<=1000000)
  (A:ops[ix]? =some o) (hw:bR ops t o=some true) (X:o.op= .call cl) (B:cl.callee= .builtin .append) (z:cl.args.toList= [so,xo]) (ht:cl.argTypes[0]? =some ty) (C:bI G t so=some u) (I:bI G t xo=some N) (hp:∀v,dE t n o.dst v=some (t' v))
  (h:∀(O':aB) (u':V) (M':Own),sx m e R (la++l2) u' M'->H O' K (M'++L)->dy P G ops (t' u') O' rc=true/\cR P G ops n lp (t' u') O' Q) (hu:P.underlying ty=some (.slice e):=by kernel_rfl) (ha:rN P e m=true:=by kernel_rfl) (S:ei P cl.argTypes[1]? =true:=by kernel_rfl):cR P G ops n ((ix,rc)::lp) t O Q:=by
 obtain⟨O',u',M',k1,k2,k3⟩:=JX (P:=P) T W hx d hn hl ht hu ha S;refine pZ A hw ?_ (hp _)<|h O' u' M' k2 k3;rw[X];exact kI B z C I S k1
end
variable {E:Nat} {u3:V}
theorem RR {z:Int} (h:dH z 0=true):z<0:=by rw[dq] at h;exact of_decide_eq_true h
theorem Pe {z:Int} (h:dH z 0=false):¬z<0:=by rw[dq] at h;exact of_decide_eq_false h
theorem sx.fS {α:Type} {m:Nat} {R R':α->List V->Prop} {l:List α} (h:sx m E R l u M) (d:∀x vs,R x vs->R' x vs):sx m E R' l u M:=by
 rcases h with h | ⟨b,c,cells,e,h1,z,A,B,h5,C⟩
 ·exact .inl h
 exact .inr ⟨b,c,cells,e,h1,z,A,fun i x hx=>d _ _ (B i x hx),h5,C⟩
theorem HG {a b c d:V} (u:cG a=some [a]/\eB a=true) (hb:cG b=some [b]/\eB b=true) (z:cG c=some [c]/\eB c=true) (hd:cG d=some [d]/\eB d=true):cG (.agg [a,b,c,d])=some [a,b,c,d]/\cM [a,b,c,d]=true:=by
 refine⟨Z,aj u.2<|aj hb.2<|aj z.2<|aj hd.2 aC⟩
theorem Q8.S7 {I M:V} {d u z:List V} {Q R S T W X I3:Own} (h:Q8 g I Q M d R S N u T W u3 z X I3) (hk:∀e∈X++(I3++(T++(W++(R++(S++Q))))),K e.1 e.2):dS K g I M N u3:=by
 obtain⟨A,B,C,E,hO1,hO2,hO3⟩:=h;simp only[List.mem_append] at hk;have cv:∀x vs,zL x vs->Of x vs:=fun x vs h=>⟨h.1,h.2.2,h.2.1⟩
 exact⟨A.fg fun e he=>hk e (by simp only[he,or_true]),gO (hO1.fS cv) B (fun e he=>hk e (by simp only[he,true_or,or_true])) (fun e he=>hk e (by simp only[he,true_or,or_true])),gO (hO2.fS cv) C (fun e he=>hk e (by simp only[he,true_or,or_true])) (fun e he=>hk e (by simp only[he,true_or,or_true])),gO (hO3.fS cv) E (fun e he=>hk e (by simp only[he,true_or])) (fun e he=>hk e (by simp only[he,true_or,or_true]))⟩
theorem Ig {α:Type} (d u z A B C E L:List α):(d++(u++(z++(A++(B++(C++(E++L))))))).Perm ((d++(u++(z++(A++(B++(C++E))))))++L):=by simp only[lQ_];exact List.Perm.refl _
theorem Ii {α:Type} (A B L:List α):(A++(B++L)).Perm (B++(A++L)):=by
 rw[<-lQ_,<-lQ_];exact List.Perm.append_right _ List.perm_append_comm
section
variable {α:Type} {c:α->α->Int} {x:α}
theorem wP:∀{l:List α} {k:Nat},(∀y∈l.take k,c y x<0)->kU c l x=l.take k++kU c (l.drop k) x
 | [],k,_=>by simp
 | y::l,0,_=>by simp
 | y::l,k+1,h=>by
  have h1:c y x<0:=h y (by simp);show(if c y x<0 then y::kU c l x else _)=_;rw[if_pos h1,wP (l:=l) (k:=k) fun z hz=>h z (by simp[hz])];simp
theorem LZ {l:List α} {k:Nat} (h:∀y∈l.take k,c y x<0) (hk:l.length<=k):kU c l x=l.take k++[x]++l.drop k:=by
 rw[wP h,List.drop_of_length_le hk];simp[kU]
theorem JF {l:List α} {k:Nat} {y:α} (h:∀y∈l.take k,c y x<0) (hy:l[k]? =some y) (h0:c y x=0):kU c l x=l:=by
 rw[wP h,cQ hy];show l.take k++(if c y x<0 then _ else if c y x=0 then y::_ else _)=l;rw[if_neg oM,if_pos h0,<-cQ hy,List.take_append_drop]
theorem L4 {l:List α} {k:Nat} {y:α} (h:∀y∈l.take k,c y x<0) (hy:l[k]? =some y) (h1:¬c y x<0) (d:c y x≠0):kU c l x=l.take k++[x]++l.drop k:=by
 rw[wP h,cQ hy];show l.take k++(if c y x<0 then _ else if c y x=0 then _ else x::y::_)=_;rw[if_neg h1,if_neg d,lQ_];rfl
theorem Ek:∀{l:List α},(kU c l x).length<=l.length+1
 | []=>nR_ _
 | y::l=>by
  show(if c y x<0 then y::kU c l x else if c y x=0 then y::l else x::y::l).length<=_;have:=Ek (l:=l);split
  ·simp only[zc_];omega
  split<;>simp only[zc_]<;>omega
theorem El:∀{l:List α} {z:α},z∈kU c l x->z∈l∨z=x
 | [],z,h=>.inr (List.mem_singleton.1 h)
 | y::l,z,h=>by
  have h:z∈(if c y x<0 then y::kU c l x else if c y x=0 then y::l else x::y::l):=h;split at h
  ·rcases mQ_.1 h with rfl | h
   ·exact .inl<|mS_ ..
   rcases El h with h | h
   ·exact .inl<|mC_ _ h
   exact .inr h
  split at h
  ·exact .inl h
  rcases mQ_.1 h with rfl | h
  ·exact .inr Z
  exact .inl h
theorem pg {l:List α} {i:Nat} (h:l[i]? =some x):iV c (l.take (i+1))=kU c (iV c<|l.take i) x:=by
 unfold iV;rw[e6 h,List.foldl_append];rfl
theorem wk {l:List α}:∀i,(iV c<|l.take i).length<=i/\∀z∈iV c (l.take i),z∈l
 | 0=>⟨nR_ _,fun z hz=>by cases hz⟩
 | i+1=>by
  obtain⟨h1,d⟩:=wk (l:=l) i
  by_cases hi:i<l.length
  ·obtain⟨y,hy⟩:=dc hi;rw[pg hy];have:=Ek (c:=c) (x:=y) (l:=iV c<|l.take i);refine⟨by omega,fun z hz=>?_⟩;rcases El hz with hz | rfl
   ·exact d z hz
   exact gB_ hy
  rw[tL_ oM] at h1 d⊢;exact⟨by omega,d⟩
end
theorem Nb (hG:Plain G) {ls:List XG} {v:V} (hl:bO K 4 (RG K) ls v) (a1:∀x∈ls,mQ x) (hn:ls.length<=20000) (ar:H O K L):
  EC G 21 [v] O fun u O'=>∃K',KP.le K K'/\bO K' 4 (RG K') (iV ik ls) u/\H O' K' L:=by
 refine V9 hG Tryz.func21 Z<|UD 17 Z<|bk (rg 3 60) (fun j t O=>∃(i:Nat) (K3:KP) (u:V) (M:Own),(j+i=ls.length/\KP.le K K3/\sx 4 52 (RG K3) (iV ik<|ls.take i) u M)/\t.get 3=some (u)/\t.get 4=some (nI i)/\H O K3 (M++L)) (ls.length) ⟨0,K,.av,[],⟨Z,KP.le_refl _,.inl ⟨Z,Z,Z⟩⟩,Z,Z,ar⟩ ?_;clear ar;intro j3 t O ak hI;obtain⟨i,K3,u,M,⟨cw,C,hO⟩,bD,bH,ar⟩:=hI;obtain⟨oo,rfl⟩:=ak.q2 bD bH Z;refine UE 3 Z ?_;have hl3:=hl.mono C fun _ _ h=>h.mono C
 refine Wh 2 Z<|J Z (W5 hl3 Z Z Z (e:=52) Z) Z<|Vy 3 Z<|aG Z (fun X=>?_) (fun X=>?_)
 ·refine SF 6 Z ?_;have hil:=aM X;obtain⟨cx,bc⟩:=wk (c:=ik) (l:=ls) i;obtain⟨xi,E⟩:=dc hil;have hRi:=a1 _ (gB_ E);have hst0:=ar;have hle4:=KP.ey K3 M;have aa:bO (K3.iO M) 4 (RG K3) (iV ik<|ls.take i) u:=hO.fg fun e he=>.inr he;have hrl:=aa.fS fun _ _ h=>h.mono hle4;have hl4:=hl3.mono hle4 fun _ _ h=>h.mono hle4
  replace ar:=ar.keeps;refine TD 5 Z<|bk ([5]++rg 13 18) (fun j t O=>∃(q:Nat),(j+q=(iV ik<|ls.take i).length/\∀y∈(iV ik<|ls.take i).take q,ik y xi<0)/\t.get 5=some (nI q)/\H O (K3.iO M) (L)) ((iV ik<|ls.take i).length) ⟨0,⟨Z,fun y hy=>by simp at hy⟩,Z,ar⟩ ?_;clear ar;intro j6 t O ak hI;obtain⟨q,⟨c0,T⟩,b0,ar⟩:=hI;obtain⟨oo,rfl⟩:=ak.q1 b0 Z;refine al<|al<|aL (l:=zp [0,1,2,3,4,5,6,7,8,9,10,11,12,13,14,15]) U U<|Wj 2 Z<|ah Z Z (W5 hrl Z Z Z (e:=52) Z) Z<|wQ 1 Z<|e8 Z Z (an Z) (fun _=>Z) (fun I=>?_) (fun I=>?_)
  ·refine Wj 2 Z ?_;obtain⟨c1,W,ce⟩:=di I;refine WW (e:=52) (m:=4) hrl W Z Z Z Z Z (fun c2 ch bd ci be=>?_);have hr20':=be;obtain⟨c3,c4,c5,c6,rfl,bf⟩:=hr20';refine ah Z Z (W8 ar bd Z Z) Z<|Wj 2 Z<|WW (e:=52) (m:=4) hl4 E Z Z Z Z Z (fun c7 ck bg cl bi=>?_);have hr24':=bi;obtain⟨c8,c9,dd,df,rfl,bl⟩:=hr24';refine ah Z Z (W8 ar bg Z Z) Z<|eL Z Z (W2 Z Z Z) (fun _=>Z) (A9 hG bf bl (a1 _<|bc _<|gB_ W) hRi ar) (fun O ar=>?_);refine⟨aT,?_⟩;refine VB 4 Z<|aG Z (fun a2=>?_) (fun a2=>?_)
   ·refine aI (ad (aK (We 2 Z (J Z (ay (v:=nI (q+1)) Z Z<|cI<|aX (by have:=aM I;omega)) Z<|Wg 2 Z<|az ?_))))
    refine aD ⟨j6-1,(by have:=aM I;omega),oF,q+1,⟨by have:=aM I;omega,fun y hy=>by
      rw[e6 W] at hy;rcases List.mem_append.1 hy with hy | hy
      ·exact T y hy
      rw[List.mem_singleton.1 hy];exact RR a2⟩,Z,ar⟩
   refine UH 3 Z<|aN<|ad<|al<|al<|aL (l:=zp [0,1,2,3,4,5,6,7,8,9,10,11,12,13,14]) U U<|Wj 2 Z<|ah Z Z (W5 hrl Z Z Z (e:=52) Z) Z<|wQ 1 Z<|e8 Z Z (an Z) (fun _=>Z) (fun S=>?_) (fun S=>?_)
   ·refine Wj 2 Z ?_;obtain⟨dk,N,cn⟩:=di S;refine WW (e:=52) (m:=4) hrl N Z Z Z Z Z (fun dl co bm cp bo=>?_);have hr38':=bo;obtain⟨dm,dr,ds,dx,rfl,bp⟩:=hr38';refine ah Z Z (W8 ar bm Z Z) Z<|Wj 2 Z<|WW (e:=52) (m:=4) hl4 E Z Z Z Z Z (fun d0 cr bq cv bs=>?_);have hr42':=bs;obtain⟨d1,d2,d3,d4,rfl,bt⟩:=hr42';refine ah Z Z (W8 ar bq Z Z) Z<|eL Z Z (W2 Z Z Z) (fun _=>Z) (PK hG bp bt (a1 _<|bc _<|gB_ N) hRi ar) (fun O ar=>?_);refine⟨aT,?_⟩;refine VB 3 Z<|aG Z (fun a3=>?_) (fun a3=>?_)
    ·refine bn<|aR<|aN<|ad<|ai Z ?_;replace ar:=H.Qj hst0 ar;refine vQ 1 Z (J Z (ay (v:=nI (i+1)) Z Z<|cI<|aX oM) Z<|Wg 2 Z<|aD ⟨j3-1,(by have:=aM X;omega),oF,i+1,K3,u,M,⟨by omega,C,by rw[pg E,JF T N<|HP a3];exact hO⟩,Z,Z,ar⟩)
    refine UG 4 Z<|fh ar Z (bN (e:=52) (m:=4) (z:=[.av,.av,.av,.av]) (cs:=[]) U U U U bE) (fun _=>Z) (fun O a4 ar=>?_);replace ar:H O _ ([(a4,.row [] 52 false)]++_):=ar;refine Wh 2 Z ?_;have ab:q<=(iV ik<|ls.take i).length:=(Nat.le_of_lt<|aM S);refine qo (e:=52) (m:=4) (k:=q) aa ab Z Z U U Z Z (fun _=>Z) (fun b1 ac=>?_);refine yN (R:=RG K3) (m:=4) (e:=52) cy.empty ar ac RG.leaf (by rw[lD_];show 0+_<=_;omega) Z Z Z Z Z Z Z (fun _=>Z) (fun O b2 a5 hM50 ar=>?_);refine Vy 3 Z<|aL (l:=zp [0,1,2,3,4,5,6,10,7,8,9,11,12]) U U ?_;replace ar:=H.kY hst0 ar;replace ar:=ar.perm (Ii ..);obtain⟨K5,A,d,ar⟩:=ar.bF (M:=a5);have hs50:=(hM50.fg (K:=K5) d);clear d;have hl5:=hl3.mono A fun _ _ h=>h.mono A
    obtain⟨b3,hO53,am⟩:=hO.Q1 ab;refine Wj 2 Z<|ah Z Z (bU Z<|am U U Z Z) Z<|Wj 2 Z<|WW (e:=52) (m:=4) hl5 E Z Z Z Z Z (fun b4 bv ao bw ap=>?_);have hr56':=ap;obtain⟨b5,b6,b7,b8,rfl,aE⟩:=hr56';refine ah Z Z (W8 ar ao Z Z) Z<|wQ 1 Z<|ed Z Z (W2 Z Z Z) (fun _=>Z) (BU hG aE (HT hRi) ar) ?_;rintro _ O ⟨u0,M0,u1,b9,O1,I1,u2,ca,O2,I2,u3,cb,O3,I3,rfl,hD,ar⟩;refine⟨aT,?_⟩;replace ar:=ar.perm (Ig ..);obtain⟨K6,Q,d,ar⟩:=ar.bF (M:=O3++(I3++(O2++(I2++(O1++(I1++M0))))));have hgc:=hD.S7 (K:=K6) d;clear d;refine gx ar Z Z (bN (e:=52) (m:=4) (z:=[.av,.av,.av,.av]) (cs:=[_,_,_,_]) U U U U<|aZ Z Z (HG hgc.init.leaf hgc.threads.leaf hgc.from_.leaf hgc.order.leaf).1 Z bE) (fun _=>Z) (fun O a9 ar=>?_);obtain⟨K7,B,d,ar⟩:=ar.bF (M:=[_]);have a0:bO K7 4 (RG K7) [xi] (.slice a9 0 1 (.known 1)):=wN (m:=4) Z ⟨_,_,_,_,Z,hgc.mono B⟩ (d _ (.head _));clear d;have hle37:=KP.le_trans A (KP.le_trans Q B);refine CA (R:=RG K7) (m:=4) (e:=52) (hO53.fS fun _ _ h=>h.mono hle37) ar a0 RG.leaf (by simp) (by rw[lT_];omega) Z Z Z Z Z Z Z Z (fun _=>Z) (fun O cc cd hO60 ar=>?_);refine⟨aT,?_⟩;refine CA (R:=RG K7) (m:=4) (e:=52) hO60 ar (hs50.mono (KP.le_trans Q B) fun _ _ h=>h.mono hle37) RG.leaf (by simp only[List.nil_append,lD_];omega) (by rw[lA_,lT_];simp only[zc_,List.length_nil];omega) Z Z Z Z Z Z Z Z (fun _=>Z) (fun O ba bb hO62 ar=>?_);refine⟨aT,?_⟩;refine Wi 2 Z (az (We 2 Z (J Z (ay (v:=nI (i+1)) Z Z<|cI<|aX oM) Z<|Wg 2 Z<|aD ⟨j3-1,(by have:=aM X;omega),oF,i+1,K7,ba,bb,⟨by omega,KP.le_trans C hle37,by rw[pg E,L4 T N (by rw[<-zs_ (W.symm.trans N)];exact Pe a2)<|Ln a3];exact hO62⟩,Z,Z,ar⟩)))
   exact absurd (S.symm.trans I) (by decide)
  refine VB 14 Z<|UH 3 Z<|aN<|ad<|al<|al<|aL (l:=zp [0,1,2,3,4,5,6,7,8,9,10,11,12,13,14]) U U<|Wj 2 Z<|ah Z Z (W5 hrl Z Z Z (e:=52) Z) Z<|wQ 1 Z<|e8 Z Z (an Z) (fun _=>Z) (fun S=>?_) (fun S=>?_)
  ·exact absurd (I.symm.trans S) (by decide)
  refine VB 13 Z<|UG 4 Z<|fh ar Z (bN (e:=52) (m:=4) (z:=[.av,.av,.av,.av]) (cs:=[]) U U U U bE) (fun _=>Z) (fun O a4 ar=>?_);replace ar:H O _ ([(a4,.row [] 52 false)]++_):=ar;refine Wh 2 Z ?_;have hkl:=bK I;have ab:q<=(iV ik<|ls.take i).length:=oM;refine qo (e:=52) (m:=4) (k:=q) aa ab Z Z U U Z Z (fun _=>Z) (fun b1 ac=>?_);refine yN (R:=RG K3) (m:=4) (e:=52) cy.empty ar ac RG.leaf (by rw[lD_];show 0+_<=_;omega) Z Z Z Z Z Z Z (fun _=>Z) (fun O b2 a5 hM50 ar=>?_);refine Vy 3 Z<|aL (l:=zp [0,1,2,3,4,5,6,10,7,8,9,11,12]) U U ?_;replace ar:=H.kY hst0 ar;replace ar:=ar.perm (Ii ..);obtain⟨K5,A,d,ar⟩:=ar.bF (M:=a5);have hs50:=(hM50.fg (K:=K5) d);clear d;have hl5:=hl3.mono A fun _ _ h=>h.mono A
  obtain⟨b3,hO53,am⟩:=hO.Q1 ab;refine Wj 2 Z<|ah Z Z (bU Z<|am U U Z Z) Z<|Wj 2 Z<|WW (e:=52) (m:=4) hl5 E Z Z Z Z Z (fun b4 bv ao bw ap=>?_);have hr56':=ap;obtain⟨b5,b6,b7,b8,rfl,aE⟩:=hr56';refine ah Z Z (W8 ar ao Z Z) Z<|wQ 1 Z<|ed Z Z (W2 Z Z Z) (fun _=>Z) (BU hG aE (HT hRi) ar) ?_;rintro _ O ⟨u0,M0,u1,b9,O1,I1,u2,ca,O2,I2,u3,cb,O3,I3,rfl,hD,ar⟩;refine⟨aT,?_⟩;replace ar:=ar.perm (Ig ..);obtain⟨K6,Q,d,ar⟩:=ar.bF (M:=O3++(I3++(O2++(I2++(O1++(I1++M0))))));have hgc:=hD.S7 (K:=K6) d;clear d;refine gx ar Z Z (bN (e:=52) (m:=4) (z:=[.av,.av,.av,.av]) (cs:=[_,_,_,_]) U U U U<|aZ Z Z (HG hgc.init.leaf hgc.threads.leaf hgc.from_.leaf hgc.order.leaf).1 Z bE) (fun _=>Z) (fun O a9 ar=>?_);obtain⟨K7,B,d,ar⟩:=ar.bF (M:=[_]);have a0:bO K7 4 (RG K7) [xi] (.slice a9 0 1 (.known 1)):=wN (m:=4) Z ⟨_,_,_,_,Z,hgc.mono B⟩ (d _ (.head _));clear d;have hle37:=KP.le_trans A (KP.le_trans Q B);refine CA (R:=RG K7) (m:=4) (e:=52) (hO53.fS fun _ _ h=>h.mono hle37) ar a0 RG.leaf (by simp) (by rw[lT_];omega) Z Z Z Z Z Z Z Z (fun _=>Z) (fun O cc cd hO60 ar=>?_);refine⟨aT,?_⟩;refine CA (R:=RG K7) (m:=4) (e:=52) hO60 ar (hs50.mono (KP.le_trans Q B) fun _ _ h=>h.mono hle37) RG.leaf (by simp only[List.nil_append,lD_];omega) (by rw[lA_,lT_];simp only[zc_,List.length_nil];omega) Z Z Z Z Z Z Z Z (fun _=>Z) (fun O ba bb hO62 ar=>?_);refine⟨aT,?_⟩;refine Wi 2 Z (az (We 2 Z (J Z (ay (v:=nI (i+1)) Z Z<|cI<|aX oM) Z<|Wg 2 Z<|aD ⟨j3-1,(by have:=aM X;omega),oF,i+1,K7,ba,bb,⟨by omega,KP.le_trans C hle37,by rw[pg E,LZ T hkl];exact hO62⟩,Z,Z,ar⟩)))
 refine UH 3 Z<|aN<|Wf 7 Z ?_;have hin:=bK X;exact aA Z Z ⟨K3.iO M,KP.le_trans C<|KP.ey _ _,by rw[<-tL_ (l:=ls) hin];exact(hO.fg fun e he=>.inr he).fS fun _ _ h=>h.mono (KP.ey _ _),ar.keeps⟩
variable {G0:Cx}
structure Rb (G G0:Cx):Prop where
 p:Plain G
 p0:Plain G0
 k1:∀a s,G.Gv 17 a s=zq Tryz.prog G0 17 4 (fun g=>Nat.beq g 18) 17 a s
def GD (m:Int) (init:List Int) (threads:List (List cm)):Int:=
 bif cL (fH m) then 2 else bif cL (F (fX init threads) 0) then fX init threads else bif F (.ofNat<|lP (dR init threads)<|eO init threads) 16385 then 3 else 0
def JW (m:Int) (init:List Int) (threads:List (List cm)):List XG:=
 bif cL (fH m) then [] else bif cL (F (fX init threads) 0) then [] else bif F (.ofNat<|lP (dR init threads)<|eO init threads) 16385 then [] else iV ik ((gV (fun l=>gM l.length l) init threads).filter<|gI m)
theorem Eo {m:Int} (h:cL (fH m)=false):m=1∨m=2:=by
 unfold fH at h;cases h1:F m 1 with
 | true=>rw[cK,decide_eq_true_iff] at h1;exact .inl h1
 | false=>
  cases d:F m 2 with
  | true=>rw[cK,decide_eq_true_iff] at d;exact .inr d
  | false=>rw[h1,d] at h;cases h
theorem Pj {m:Int} {init:List Int} {threads:List (List cm)} (h:lP (dR init threads) (eO init threads)<=16384) {l:List XG} (hp:l.Perm ((gV ft init threads).filter<|gI m)) (d:l.Pairwise fun x y=>decide (ik y x<0)=false):l=iV ik ((gV (fun l=>gM l.length l) init threads).filter<|gI m):=by
 by_cases h0:lP (dR init threads) (eO init threads)=0
 ·rw[xA h0] at hp;have e:gV (fun l=>gM l.length l) init threads= []:=by unfold gV;rw[vu h0];rfl
  rw[e,List.Perm.eq_nil hp];rfl
 exact of_same (m:=m) (gI m) h h0 hp d
theorem SQ {G:Cx} (N:Rb G G0) (m:Int) {init:List Int} {threads:List (List cm)} (hi:bO K 1 ek init vi) (Q:bO K 1 (RL K 5 gG) threads vt) (ar:H O K L):
  EC G 5 [.int .i64 m,vi,vt] O fun v O'=>∃K' u M,KP.le K K'/\v= .tuple [u,.int .i64<|GD m init threads]/\cy 4 52 (RG K') (JW m init threads) u M/\H O' K' (M++L):=by
 have hG:=N.p;refine V9 hG Tryz.func5 Z<|UE 10 Z<|kx (W2 Z Z Z) (Oy hG m ar) (fun O ar=>?_);refine J Z (dW Z) Z<|Vy 2 Z<|aG Z (fun d=>?_) (fun d=>?_)
 ·refine Vx 8 Z ?_;exact fN Z Z Z ⟨K,.av,[],KP.le_refl _,(by unfold GD;rw[(cU<|fH m).trans d];rfl),(by unfold JW;rw[(cU<|fH m).trans d];exact cy.nil),ar⟩
 refine UF 3 Z<|Vw 4 Z<|kx (W2 Z Z Z) (OA hG hi Q ar) (fun O ar=>?_);refine Vy 9 Z<|aG Z (fun z=>?_) (fun z=>?_)
 ·refine Vx 9 Z ?_;exact fN Z Z Z ⟨K,.av,[],KP.le_refl _,(by unfold GD;rw[(cU<|fH m).trans d,show cL (F (fX init threads) 0)=true from z];rfl),(by unfold JW;rw[(cU<|fH m).trans d,show cL (F (fX init threads) 0)=true from z];exact cy.nil),ar⟩
 refine UG 6 Z ?_;have R:fX init threads=0:=Lm (cD z);obtain⟨h6,h4,E,aa⟩:=oO R;have hwl:=N7 (init:=init) h4 E;have hsl:=w8 (init:=init) h4 E;refine kw (W2 Z Z Z) (SR hG hi Q R ar) ?_;rintro _ O ⟨K2,p2,p3,p4,A,rfl,S,T,hw,ar⟩;have hi2:=hi.mono A fun _ _ h=>h;have ht2:=Q.mono A fun _ _ h=>h.mono A
 refine kb ar (W6 (cs:=[.av,.av,.av,.av,.av])) (fun O b1 ar=>?_);refine bT ar Z (Sx Z Z Z ar.g0 (m:=5) Z (aj hi2.leaf.2<|aj ht2.leaf.2<|aj S.leaf.2<|aj T.leaf.2<|aj hw.leaf.2 aC) (cells':=[_,_,_,_,_]) Z) Z (fun O ar=>?_);refine TE 5 Z<|J Z (Xe Z ar.g0 Z) Z<|kx (W2 Z Z Z) (Hy hG T hw hi2.leaf.2 ht2.leaf.2 S.leaf.2 hsl hwl ar) (fun O ar=>?_);refine Vy 3 Z<|aG Z (fun B=>?_) (fun B=>?_)
 ·refine Vx 8 Z ?_;exact fN Z Z Z ⟨K2,.av,[],A,(by unfold GD;rw[(cU<|fH m).trans d,show cL (F (fX init threads) 0)=false from z,B];rfl),(by unfold JW;rw[(cU<|fH m).trans d,show cL (F (fX init threads) 0)=false from z,B];exact cy.nil),ar.pop⟩
 refine UG 4 Z<|J Z (Xe Z ar.g0 Z) Z<|vQ 1 Z ?_
 have hT:lP (dR init threads) (eO init threads)<=16384:=by
   have h1:=C0 (srcs:=dR init threads) (wrs:=eO init threads);have h2:lP (dR init threads) (eO init threads)≠16385:=fun e=>by rw[e] at B;revert B;decide
   omega
 refine kw (W2 Z Z Z) (SS hG (Eo ((cU _).trans d)) hi2 ht2 R S T hw hT ar) ?_;rintro W O ⟨K3,ac,I,hA,ar⟩;refine UK 6 Z<|kw (W2 Z Z Z) (OX (m:=4) (c:=ik) oM (Sn xE) N.k1 Z RG.leaf hA.1 hA.2 ar fun σ2 h2 x y vx vy hx hy=>?_) ?_
 ·obtain⟨a1,b1,c1,d1,rfl,hx⟩:=hx;obtain⟨a2,b2,c2,d2,rfl,hy⟩:=hy;exact(Ku N.p0 hx.ro hy.ro h2).mono fun _ _ h=>h.1
 rintro _ O ⟨rfl,gs,M2,C,ab,hO4,ar⟩;refine VA 10 Z ?_;replace ar:=ar.pull (.bV<|bu.here (X:=[_]));rw[za_] at ar;exact fN Z Z Z ⟨K3,W,M2,KP.le_trans A I,(by unfold GD;rw[(cU<|fH m).trans d,show cL (F (fX init threads) 0)=false from z,B];rfl),(by unfold JW;rw[(cU<|fH m).trans d,show cL (F (fX init threads) 0)=false from z,B];show cy 4 52 _ (iV ik _) _ _;rw[<-Pj hT C ab];exact hO4),ar.pop⟩
theorem AE:∀n:Nat,LA n=fO (dP n)
 | 0=>rfl
 | n+1=>by
  show(n+1)*LA n=_;rw[oS,ru,AE n,Nat.mul_comm];show _=_*((n+1)*1);rw[Nat.mul_one]
theorem MD {w:List bS}:(rP w).length<=(ft w).length:=by
 rw[AK,<-AE];exact qv w.length w Z
theorem y5 {f g:List bS->List (List bS)} (h:∀w,(f w).length<=(g w).length):∀{L:List (List bS)},fO ((L.map f).map List.length)<=fO ((L.map g).map List.length)
 | []=>nR_ _
 | w::L=>Nat.mul_le_mul (h w) (y5 h (L:=L))
theorem Aj {init:List Int} {threads:List (List cm)} (h:lP (dR init threads) (eO init threads)<=16384) (h0:lP (dR init threads) (eO init threads)≠0):(gV (fun l=>gM l.length l) init threads).length<=16384:=by
 refine Nat.le_trans ?_<|Am h h0;unfold gV;rw[List.length_flatMap,List.length_flatMap];simp only[lM_];rw[List.map_const',List.map_const',List.sum_replicate_nat,List.sum_replicate_nat,ox (L:=(eO init threads).map fun l=>gM l.length l),ox (L:=(eO init threads).map ft)];exact Nat.mul_le_mul_left _<|y5 (f:=fun l=>gM l.length l) fun _=>MD
theorem oj {α β:Type} {f:α->List β} {c:Nat}:∀{l:List α},(∀x∈l,(f x).length<=c)->(l.flatMap f).length<=l.length*c
 | [],_=>Nat.zero_le _
 | x::l,h=>by
  rw[List.flatMap_cons,lA_,zc_,Nat.succ_mul];have h1:=h x (.head _);have h2:=oj (l:=l) fun y hy=>h y (.tail _ hy)
  omega
theorem Jx (h:ec g=0):mQ g:=by
 obtain⟨z,b2,u,A,b5,B,b7⟩:=iE h;have h1:=oj (f:=fun r:List cm=>r.flatMap cm.ints) (l:=g.threads) (c:=14*5) fun r d=>Nat.le_trans (oj (c:=5) fun e _=>nR_ _) (nM_ _<|u r d)
 have h2:=oj (f:=eY) (l:=g.from_) (c:=1+14*2) fun r d=>by rw[tD];have:=zk B A u r d;omega
 have h3:=oj (f:=eY) (l:=g.order) (c:=1+56*2) fun r d=>by rw[tD];have:=mz h r d;omega
 refine⟨?_⟩;have k1:=nM_ (14*5) z;have k2:=nM_ (1+14*2) (show g.from_.length<=4 by omega);have k3:=nM_ (1+56*2) (show g.order.length<=6 by omega);omega
theorem Od {threads:List (List cm)}:dj (eS threads) (iB threads) []=eS threads:=by
 cases iB threads<;>rfl
theorem JK {m:Int} {q:Bool} (h:q=true) (hq:q=cL (fH m)):cL (fH m)=true:=hq ▸ h
theorem Bm {a:Nat} (h:a<=16385) (d:dH 16384 (.ofNat a)=true):F (.ofNat a) 16385=true:=by
 have:=aM (a:=16384) d;obtain rfl:a=16385:=by omega
 rfl
theorem zy {a:Nat} (d:dH 16384 (.ofNat a)=false):F (.ofNat a) 16385=false/\a<=16384:=by
 have:=bK (a:=16384) d;refine⟨?_,this⟩;rw[cK,decide_eq_false_iff_not];intro h;have:a=16385:=iJ_ h;omega
theorem SX (T:Plain G) (m:Int) {init:List Int} {threads:List (List cm)} (hi:bO K 1 ek init vi) (ht:bO K 1 (RL K 5 gG) threads vt) (ar:H O K L):
  EC G 6 [.int .i64 m,vi,vt] O fun v O'=>∃K' u,KP.le K K'/\v= .tuple [u,.int .i64<|GD m init threads]/\bO K' 4 (RG K') (JW m init threads) u/\H O' K' L:=by
 refine V9 T Tryz.func6 Z<|UE 9 Z ?_;obtain⟨LO1_0,ar,hLO1_0⟩:=ar.named;refine iF 6 [11,12,13,14,15,16] (fun t O=>∃qk:Bool,qk=cL (fH m)/\t.get 16=some (.bool qk)/\H O K LO1_0) ?_ ?_
 ·subst hLO1_0;refine Wh 2 Z<|ky Z (an Z) (fun am=>?_) (fun am=>?_)
  ·refine Wg 4 Z ?_;exact⟨Z,oF,_,(by unfold fH;cases e1:F m 1<;>cases e2:F m 2<;>simp_all [cL]),Z,ar⟩
  refine Wg 4 Z ?_;exact⟨Z,oF,_,(by unfold fH;cases e1:F m 1<;>cases e2:F m 2<;>simp_all [cL]),Z,ar⟩
 clear ar;intro t O ak hI;obtain⟨qk,E,W,ar⟩:=hI;subst hLO1_0;obtain⟨oo,rfl⟩:=ak.q1 W Z;refine Vy 2 Z<|aG Z (fun d=>?_) (fun d=>?_)
 ·refine Vx 8 Z ?_;have hk:cL (fH m)=true:=JK d E;exact fN Z Z Z ⟨K,.av,KP.le_refl _,(by unfold GD;rw[hk];rfl),(by unfold JW;rw[hk];exact .inl ⟨Z,Z⟩),ar⟩
 refine UG 6 Z<|kw (W2 Z Z Z) (OG T hi ht ar) ?_;rintro _ O ⟨K1,sa,sb,sc,sd,A,rfl,ao,ca,la,cb,lb,cc,lc,cd,ld,ar⟩;refine Wh 3 Z<|kb ar (W6 (cs:=[.av,.av,.av,.av])) (fun O b1 ar=>?_);refine bT ar Z (Sx Z Z Z ar.g0 (m:=4) Z (aj la<|aj lb<|aj lc<|aj ld aC) (cells':=[_,_,_,_]) Z) Z (fun O ar=>?_);refine UJ 10 Z<|aG Z (fun z=>?_) (fun z=>?_)
 ·refine Vx 9 Z ?_;have hk:cL (fH m)=false:=E ▸ d;exact fN Z Z Z ⟨K1,.av,A,(by unfold GD;rw[hk,show cL (F (fX init threads) 0)=true from z];rfl),(by unfold JW;rw[hk,show cL (F (fX init threads) 0)=true from z];exact .inl ⟨Z,Z⟩),ar.pop⟩
 refine UG 4 Z ?_;have hE:fX init threads=0:=Lm (cD z);have hg:=ao hE;have ap:bO K1 1 ek init sa:=hg.init;have aE:bO K1 1 (RL K1 5 gG) threads sb:=hg.threads;refine J Z (Xd Z ar.g0 Z) Z<|kw (W2 Z Z Z) (OH T ap aE hE ⟨lc,cc⟩ ⟨ld,cd⟩ ar) ?_;rintro _ O ⟨rfl,K2,B,ar⟩;have hg2:=hg.mono B;have X:bO K2 1 (RL K2 5 gG) threads sb:=hg2.threads;refine UJ 10 Z<|aG Z (fun I=>?_) (fun I=>?_)
 ·refine Vx 8 Z ?_;have hk:cL (fH m)=false:=E ▸ d;have h24f:cL (F (fX init threads) 0)=false:=z;exact fN Z Z Z ⟨K2,.av,KP.le_trans A B,(by unfold GD;rw[hk,h24f,Bm C0 I];rfl),(by unfold JW;rw[hk,h24f,Bm C0 I];exact .inl ⟨Z,Z⟩),ar.pop⟩
 refine UF 9 Z<|aG Z (fun N=>?_) (fun N=>?_)
 ·refine Vx 8 Z ?_;have hk:cL (fH m)=false:=E ▸ d;have h24f:cL (F (fX init threads) 0)=false:=z;have a0:gV (fun l=>gM l.length l) init threads= []:=by unfold gV;rw[vu<|iJ_<|Lm N];rfl
  exact fN Z Z Z ⟨K2,.av,KP.le_trans A B,(by unfold GD;rw[hk,h24f,(zy I).1];rfl),(by unfold JW;rw[hk,h24f,(zy I).1,a0];exact .inl ⟨Z,Z⟩),ar.pop⟩
 refine UF 3 Z (aL (l:=[(0,[]),(1,[]),(2,[]),(3,[1]),(4,[]),(5,[]),(6,[]),(7,[])]) U U ?_);obtain⟨h6i,h4,a1,ac⟩:=oO hE;have hkn:=Eo (show cL (fH m)=false from E ▸ d);obtain⟨hT,S⟩:=zy I;have hT0:lP (dR init threads) (eO init threads)≠0:=fun e=>by rw[e] at N;exact Bool.noConfusion (show true=false from N)
 refine wQ 1 Z<|ah Z Z (Xd Z ar.g0 Z) Z<|ah Z Z (Xd Z ar.g0 Z) Z<|ed Z Z (W2 Z Z Z) (fun _=>Z) (HF T X h4 a1 ⟨la,ca⟩ ⟨lc,cc⟩ ⟨ld,cd⟩ ar) ?_;rintro a2 O ⟨a3,hM35,ar⟩;refine⟨(bj (bx Z Z Z Z Z (Xd Z ar.bG.g0 Z)<|gT<|cP hg2.init.iK<|cP hg2.threads.iK<|cP hg2.from_.iK<|cP hg2.order.iK gf) aT),?_⟩;obtain⟨K3,Q,C,ar⟩:=ar.bF (M:=a3);have hr3:=hM35.fg (K:=K3) C;clear C;have a4:dS K3 ⟨init,threads,dj (eS threads) (iB threads) [],List.replicate init.length []⟩ sa sb sc sd:=by rw[Od];exact hg2.mono Q
 refine ed Z Z (W2 Z Z Z) (fun _=>Z) (Rp T hE (Fi S hT0) (iB threads).length 0 K3 [] sa sb sc sd a2 [] .av [] _ (nA_ _) Z a4 hr3 cy.nil (by rw[Al];have:=Aj S hT0;show 0+_<=_;omega) (show H _ K3 ([]++_) from ar)) ?_;rintro u36 O ⟨K4,a5,aa,hA,ar⟩;rw[Al] at hA;obtain⟨K5,R,C,ar⟩:=ar.bF (M:=a5);have a9:bO K5 4 (RG K5) ((gV (fun l=>gM l.length l) init threads).filter<|gI m) u36:=(hA.fS fun _ _ h=>h.mono R).fg C;refine⟨aT,?_⟩;refine ed Z Z (W2 Z Z Z) (fun _=>Z) (Nb T a9 (fun x hx=>Jx (cons_right hkn (List.mem_filter.1 hx).2)) (Nat.le_trans (List.length_filter_le ..)<|Nat.le_trans (Aj S hT0) (by decide)) ar) ?_;rintro ba O ⟨K6,ab,bb,ar⟩;refine⟨aT,?_⟩;refine VC 5 Z ?_;have hk:cL (fH m)=false:=E ▸ d;have h24f:cL (F (fX init threads) 0)=false:=z;exact fN Z Z Z ⟨K6,ba,KP.le_trans A<|KP.le_trans B<|KP.le_trans Q<|KP.le_trans aa<|KP.le_trans R ab,(by unfold GD;rw[hk,h24f,hT];rfl),(by unfold JW;rw[hk,h24f,hT];exact bb),ar.pop⟩
theorem Tm {p:Nat}:(bif dH 60 (.ofNat p) then 60 else Int.ofNat p)= .ofNat (min p 60):=by
 cases h:dH 60 (.ofNat p) with
 | true=>
  have h:=aM (a:=60) h;rw[Nat.min_eq_right oM];rfl
 | false=>
  have h:=bK (a:=60) h;rw[Nat.min_eq_left oM];rfl
theorem Kr {G:Cx} (hS:Rb G G0) (aa:G.NN 4 []=some (.bool true)) (Q:∀O L,H O K L->kz G.gl O G.laid=true) (m:Int) {init:List Int} {threads:List (List cm)} (hi:bO K 1 ek init vi) (N:bO K 1 (RL K 5 gG) threads vt) (ar:H O K L):
  EC G 3 [.int .i64 m,vi,vt] O fun v O'=>v= .bool true:=by
 have hG:=hS.p;refine V9 hG Tryz.func3 Z<|UE 8 Z<|kx (W2 Z Z Z) (Lr (v:=.bool true) (hG.h1 _ _ _ Z) aa Z Z (Q _ _ ar) ⟨Z,ar⟩) (fun O ar=>?_);refine J Z (dW Z) Z<|Vy 3 Z<|TC 14 Z ?_;obtain⟨LL1,ar,hLL1⟩:=ar.named;refine bk ([7,8]++rg 15 18) (fun j t O=>∃(i s:Nat),j+i=threads.length/\s<=i*60/\t.get 7=some (nI s)/\t.get 8=some (nI i)/\H O K LL1) (threads.length) ⟨0,0,Z,nR_ _,Z,Z,ar⟩ ?_;clear ar;intro j5 t O ak hI;obtain⟨i,s,a5,hs,ap,aE,ar⟩:=hI;subst hLL1;obtain⟨oo,rfl⟩:=ak.q2 ap aE Z;refine UE 5 Z<|J Z (W5 N Z Z Z (e:=25) Z) Z<|vQ 1 Z<|ky Z (an Z) (fun E=>?_) (fun E=>?_)
 ·refine Vy 5 Z<|aG Z (fun R=>?_) (fun R=>?_)
  ·refine TC 4 Z<|We 4 Z ?_;obtain⟨I,ab,a2⟩:=di E;refine WV (e:=25) (m:=1) N ab Z Z Z Z (fun a9 a3 ac a4 am=>?_);have hr28':=am;obtain⟨ba,rfl,ao⟩:=hr28';refine J Z (W7 ar ac Z Z) Z (J Z (W5 ao Z Z Z (e:=38) Z) Z (J Z (IW Z Z Z Z) Z (J Z (ay (v:=nI (s+min I.length 60)) Z Z (cI (by show wr .i64 (Int.add (.ofNat s) (bif dH 60 (.ofNat I.length) then 60 else Int.ofNat I.length))=_;rw[Tm];exact NZ (by have:=aM (b:=6) R;omega)))) Z (Wg 2 Z (az (Wd 5 Z (aD ⟨j5-1,(by have:=aM E;omega),oF,i+1,s+min I.length 60,(by have:=aM E;omega),oM,Z,cI (aX (by have:=aM (b:=6) R;omega)),ar⟩)))))))
  refine UH 3 Z<|aN<|UE 4 Z<|J Z (W5 N Z Z Z (e:=25) Z) Z<|vQ 1 Z<|ky Z (an Z) (fun S=>?_) (fun S=>?_)
  ·refine UM 18 Z ?_;exact aA Z Z Z
  refine Wh 3 Z<|ky Z (an Z) (fun T=>?_) (fun T=>?_)
  ·refine UM 14 Z ?_;exact aA Z Z Z
  refine vQ 1 Z<|J Z (W5 hi Z Z Z (e:=2) Z) Z<|Vy 4 Z<|aG Z (fun W=>?_) (fun W=>?_)
  ·refine Vx 7 Z ?_;exact aA Z Z Z
  refine UG 7 Z<|kw (W2 Z Z Z) (SQ hS m hi N ar) ?_;rintro _ O ⟨K1,u9,M9,z,rfl,hA,ar⟩;obtain⟨K2,d,A,ar⟩:=ar.bF (M:=M9);have X:bO K2 4 (RG K2) (JW m init threads) u9:=(hA.fS fun _ _ h=>h.mono d).fg A;have hle12:=KP.le_trans z d;have hi2:=hi.mono hle12 fun _ _ h=>h;have ht2:=N.mono hle12 fun _ _ h=>h.mono hle12
  refine UK 12 Z<|kw (W2 Z Z Z) (SX hG m hi2 ht2 ar) ?_;rintro _ O ⟨K3,a0,u,rfl,B,ar⟩;have hs93:=X.mono u fun _ _ h=>h.mono u
  refine UK 11 Z<|kw (W2 Z Z Z) (Fo hG hs93 B ar) ?_;rintro _ O ⟨⟨a1,rfl,C⟩,ar⟩;obtain rfl:=C.2 Z;refine VA 9 Z ?_;exact aA (v:=.bool<|F (GD m init threads)<|GD m init threads) Z Z<|cB (by rw[cK];exact decide_eq_true Z)
 refine UN 8 Z<|aU<|aN<|UE 4 Z<|J Z (W5 N Z Z Z (e:=25) Z) Z<|vQ 1 Z<|ky Z (an Z) (fun S=>?_) (fun S=>?_)
 ·refine UM 18 Z ?_;exact aA Z Z Z
 refine Wh 3 Z<|ky Z (an Z) (fun T=>?_) (fun T=>?_)
 ·refine UM 14 Z ?_;exact aA Z Z Z
 refine vQ 1 Z<|J Z (W5 hi Z Z Z (e:=2) Z) Z<|Vy 4 Z<|aG Z (fun W=>?_) (fun W=>?_)
 ·refine Vx 7 Z ?_;exact aA Z Z Z
 refine UG 7 Z<|kw (W2 Z Z Z) (SQ hS m hi N ar) ?_;rintro _ O ⟨K1,u9,M9,z,rfl,hA,ar⟩;obtain⟨K2,d,A,ar⟩:=ar.bF (M:=M9);have X:bO K2 4 (RG K2) (JW m init threads) u9:=(hA.fS fun _ _ h=>h.mono d).fg A;have hle12:=KP.le_trans z d;have hi2:=hi.mono hle12 fun _ _ h=>h;have ht2:=N.mono hle12 fun _ _ h=>h.mono hle12
 refine UK 12 Z<|kw (W2 Z Z Z) (SX hG m hi2 ht2 ar) ?_;rintro _ O ⟨K3,a0,u,rfl,B,ar⟩;have hs93:=X.mono u fun _ _ h=>h.mono u
 refine UK 11 Z<|kw (W2 Z Z Z) (Fo hG hs93 B ar) ?_;rintro _ O ⟨⟨a1,rfl,C⟩,ar⟩;obtain rfl:=C.2 Z;refine VA 9 Z ?_;exact aA (v:=.bool<|F (GD m init threads)<|GD m init threads) Z Z<|cB (by rw[cK];exact decide_eq_true Z)
variable {xs:Array Value}
def KS (xs ys:List V):Bool:=
 List.rec (motive:=fun _=>List V->Bool) (fun ys=>List.rec (motive:=fun _=>Bool) true (fun _ _ _=>false) ys)
  (fun x _ ih ys=>List.rec (motive:=fun _=>Bool) false (fun y r _=>bif dQ x y then ih r else false) ys) xs ys
def Gc (xs ys:List eP):Bool:=
 List.rec (motive:=fun _=>List eP->Bool) (fun ys=>List.rec (motive:=fun _=>Bool) true (fun _ _ _=>false) ys)
  (fun x _ ih ys=>List.rec (motive:=fun _=>Bool) false (fun y r _=>bif dQ x.key y.key then(bif dQ x.val y.val then(bif Nat.beq x.born y.born then ih r else false) else false) else false) ys) xs ys
def HS (x y:cN):Bool:=
 match x,y with
 | .row c e false,.row c' e' false=>bif Nat.beq e e' then dQ.beqL c c' else false
 | .own c e,.own c' e'=>bif Nat.beq e e' then dQ.beqL c c' else false
 | .map es k,.map es' k'=>bif Nat.beq k k' then Gc es es' else false
 | .iter s p,.iter s' p'=>bif Nat.beq p p' then AB s s' else false
 | .mark,.mark=>true
 | .dead,.dead=>true
 | _,_=>false
def Sm (l:List (Nat×cN)) (O:aB):Bool:=
 List.rec (motive:=fun _=>Bool) true (fun x _ r=>match O.m.get x.1 with | some o=>bif HS o x.2 then r else false | none=>false) l
def LR (gl:Nat) (laid:List (Nat×List V)) (e:ME) (f:Nat) (args:List V) (O:aB):Bool:=
 bif Nat.beq e.f f then(bif KS args e.args then(bif Nat.beq O.next e.next then(bif kz gl O laid then Sm e.l O else false) else false) else false) else false
def HV (gl:Nat) (laid:List (Nat×List V)) (mem:List ME) (f:Nat) (args:List V) (O:aB):Option ME:=
 List.rec (motive:=fun _=>Option ME) none (fun e _ r=>bif LR gl laid e f args O then some e else r) mem
def BW (l:List (Nat×cN)) (m:PT cN):PT cN:=List.rec (motive:=fun _=>PT cN) m (fun x _ r=>r.put none x.1) l
def wV (l:List (Nat×cN)) (m:PT cN):PT cN:=List.rec (motive:=fun _=>PT cN) m (fun x _ r=>r.put (some x.2) x.1) l
def JL (O:aB) (e:ME):aB:={next:=e.next',m:=wV e.l' (BW e.l O.m)}
def tx (laid:List (Nat×List V)) (E:Nat->TypeId) (e:ME):aB:={next:=e.next,m:=wV e.l (Gw laid E)}
def Ws (gl:Nat) (laid:List (Nat×List V)) (e:ME):Bool:=
 Nat.ble gl e.next && (Nat.ble e.next e.next' && ((laid.all fun x=>Nat.blt x.1 gl) && ((e.l.all fun x=>Nat.ble gl x.1 && (Nat.blt x.1 e.next && !x.2.ro)) && (e.l'.all fun x=>Nat.ble gl x.1 && (Nat.blt x.1 e.next' && (!x.2.ro && (Nat.ble e.next x.1 || e.l.any fun y=>Nat.beq y.1 x.1)))))))
theorem DD:∀{xs ys:List V},KS xs ys=true->xs=ys
 | [],[],_=>rfl
 | [],_::_,h=>by cases h
 | _::_,[],h=>by cases h
 | x::xs,y::ys,h=>by
  have h':(bif dQ x y then KS xs ys else false)=true:=h;rw[bM] at h';split at h'
  ·rename_i hb;rw[wJ hb,DD h']
  cases h'
theorem AA:∀{xs ys:List eP},Gc xs ys=true->xs=ys
 | [],[],_=>rfl
 | [],_::_,h=>by cases h
 | _::_,[],h=>by cases h
 | x::xs,y::ys,h=>by
  have h':(bif dQ x.key y.key then(bif dQ x.val y.val then(bif Nat.beq x.born y.born then Gc xs ys else false) else false) else false)=true:=h;rw[bM] at h';split at h'
  ·rename_i h1;rw[bM] at h';split at h'
   ·rename_i d;rw[bM] at h';split at h'
    ·rename_i u;have e1:=wJ h1;have e2:=wJ d;have e3:=nB u;rw[AA h'];cases x;cases y;simp only at e1 e2 e3;subst e1;subst e2;subst e3;rfl
    cases h'
   cases h'
  cases h'
theorem Lo {x y:cN} (h:HS x y=true):x=y:=by
 unfold HS at h;split at h
 ·rw[bM] at h;split at h
  ·rename_i he;rw[nB he,qT h]
  cases h
 ·rw[bM] at h;split at h
  ·rename_i he;rw[nB he,qT h]
  cases h
 ·rw[bM] at h;split at h
  ·rename_i he;rw[nB he,AA h]
  cases h
 ·rw[bM] at h;split at h
  ·rename_i he;rw[xN,decide_eq_true_eq] at h;rw[nB he,h]
  cases h
 ·rfl
 ·rfl
 cases h
theorem Fa:∀{l:List (Nat×cN)} {O:aB},Sm l O=true->∀x∈l,O.m.get x.1=some x.2
 | [],O,_,x,hx=>by cases hx
 | y::l,O,h,x,hx=>by
  have h':(match O.m.get y.1 with | some o=>bif HS o y.2 then Sm l O else false | none=>false)=true:=h;split at h'
  ·rename_i o d;rw[bM] at h';split at h'
   ·rename_i he;rcases mQ_.1 hx with rfl | hx
    ·rw[d,Lo he]
    exact Fa h' x hx
   cases h'
  cases h'
theorem qC:∀{l:List (Nat×cN)} {m:PT cN} {b:Nat} {o:cN},(wV l m).get b=some o->(∃x∈l,x.1=b/\x.2=o)∨((∀x∈l,x.1≠b)/\m.get b=some o)
 | [],m,b,o,h=>.inr ⟨fun x hx=>(by cases hx),h⟩
 | y::l,m,b,o,h=>by
  have h':((wV l m).put (some y.2) y.1).get b=some o:=h;rw[PT.jM] at h';split at h'
  ·rename_i e;cases h';exact .inl ⟨y,mS_,e.symm,Z⟩
  rename_i hne;rcases qC h' with ⟨x,h1,d⟩ | ⟨h1,d⟩
  ·exact .inl ⟨x,mC_ _ h1,d⟩
  refine .inr ⟨fun x hx=>?_,d⟩;rcases mQ_.1 hx with rfl | hx
  ·exact fun e=>hne e.symm
  exact h1 x hx
theorem vN:∀{l:List (Nat×cN)} {m:PT cN} {b:Nat} {o:cN},(BW l m).get b=some o->(∀x∈l,x.1≠b)/\m.get b=some o
 | [],m,b,o,h=>⟨fun x hx=>(by cases hx),h⟩
 | y::l,m,b,o,h=>by
  have h':((BW l m).put none y.1).get b=some o:=h;rw[PT.jM] at h';split at h'
  ·cases h'
  rename_i hne;obtain⟨h1,d⟩:=vN h';refine⟨fun x hx=>?_,d⟩;rcases mQ_.1 hx with rfl | hx
  ·exact fun e=>hne e.symm
  exact h1 x hx
theorem Ad {laid:List (Nat×List V)} {E:Nat->TypeId} {e:ME} {b:Nat} {o:cN} (h:(tx laid E e).m.get b=some o):(∃x∈e.l,x.1=b/\x.2=o)∨∃x∈laid,x.1=b/\o= .row x.2 (E x.1) true:=by
 rcases qC h with h | ⟨_,h⟩
 ·exact .inl h
 exact .inr<|yB E h
def US (P:Program) (gl:Nat) (laid:List (Nat×List V)) (e:ME):Prop:=
 Ws gl laid e=true/\∀(E:Nat->TypeId) (Y:Ren) (w:World) (xs:Array Value) (R:Ending->World->Prop),Inv Y (tx laid E e) w->(∀g,g<gl->∃c,Y (posOf g)=some ⟨g,0,c⟩)->dA Y e.args xs.toList->
  (∀(Y':Ren) (σr:aB) (w':World) (x:Value),(∀y∈e.l',σr.m.get y.1=some y.2)->σr.next=e.next'->Inv Y' σr w'->fb Y (tx laid E e) w Y' σr w'->VR Y' e.v x->R (.returned x) w')->
  Calls P e.f xs w R
section
variable {P:Program} {G:Cx} {Y:Ren} {O:aB} {w:World}
theorem Gx {e:ME} (ha:US P G.gl G.laid e) {f:Nat} {args:List V} (hh:LR G.gl G.laid e f args O=true) (hi:Inv Y O w) (hg:GR Y G) (hx:dA Y args xs.toList)
  {R:Ending->World->Prop} (hR:∀(Y':Ren) (w':World) (x:Value),Inv Y' (JL O e) w'->fb Y O w Y' (JL O e) w'->VR Y' e.v x->R (.returned x) w'):Calls P f xs w R:=by
 unfold LR at hh;simp only[bM] at hh;split at hh
 case isFalse=>cases hh
 rename_i hf;split at hh
 case isFalse=>cases hh
 rename_i S;split at hh
 case isFalse=>cases hh
 rename_i T;split at hh
 case isFalse=>cases hh
 rename_i W;have ef:=nB hf;have ea:=DD S;have en:O.next=e.next:=nB T;subst ef;subst ea;obtain⟨ac,ak⟩:=ha;have hsub:=Fa hh;have hlg:=yA G.laid W;simp only[Ws,bA_,aE_,nE_,Bool.not_eq_true',Bool.or_eq_true,List.any_eq_true] at ac;obtain⟨w1,w2,w3,w4,w5⟩:=ac
 have hB:∀b o,(tx G.laid (OT O) e).m.get b=some o->O.m.get b=some o:=fun b o h=>by
  rcases Ad h with ⟨x,hx,rfl,rfl⟩ | ⟨x,hx,rfl,rfl⟩
  ·exact hsub x hx
  exact hlg x hx
 have aE:∀b o,(tx G.laid (OT O) e).m.get b=some o->o.ro=false->∃x∈e.l,x.1=b:=fun b o h E=>by
  rcases Ad h with ⟨x,hx,h1,_⟩ | ⟨x,hx,_,rfl⟩
  ·exact⟨x,hx,h1⟩
  cases E
 have X:∀r,Wr Y (tx G.laid (OT O) e) r->Wr Y O r:=fun r ⟨b,o,l,h1,u,A,N⟩=>⟨b,o,l,hB b o h1,u,A,N⟩
 have am:Inv Y (tx G.laid (OT O) e) w:=by
  refine⟨⟨fun b hb=>?_,hi.dz,fun b o l h1 u=>hi.obj b o l (hB b o h1) u,fun b b' o o' l l' h1 u A N=>hi.inj b b' o o' l l' (hB b o h1) (hB b' o' u) A N⟩,hi.oI.size,hi.oI.same,fun r L h=>hi.oI.no r L (X r h)⟩;have I:O.next.num<=b.num:=by rw[en];exact hb
  have hfr:=hi.fresh b I;refine⟨hfr.1,?_⟩;cases h:(tx G.laid (OT O) e).m.get b with
  | none=>rfl
  | some o=>rw[hB b o h] at hfr;cases hfr.2
 refine ak (OT O) Y w xs R am hg hx fun Y' σr w' x a0 a1 ir sr hv=>?_
 have hold:∀b o,(JL O e).m.get b=some o->(∃x∈e.l',x.1=b/\x.2=o/\σr.m.get b=some o/\o.ro=false)∨((∀x∈e.l,x.1≠b)/\O.m.get b=some o/\b<e.next):=fun b o h=>by
  rcases qC h with ⟨x,hx,h1,u⟩ | ⟨_,h⟩
  ·refine .inl ⟨x,hx,h1,u,?_,?_⟩
   ·rw[<-h1,<-u];exact a0 x hx
   rw[<-u];exact(w5 x hx).2.2.1
  obtain⟨h1,u⟩:=vN h;refine .inr ⟨h1,u,?_⟩;apply zo_;intro hn;have:=hi.fresh b (by rw[en];exact Nat.not_lt.1 hn);rw[u] at this;cases this.2
 have d:∀b,b<e.next->Y' b=Y b:=fun b hb=>sr.ext b hb
 have B:∀b o lb,(∀x∈e.l,x.1≠b)->O.m.get b=some o->Y b=some lb->¬Wr Y (tx G.laid (OT O) e) lb.dz:=fun b o lb h1 u A ⟨b2,o2,l2,Q,C,M,k4⟩=>by
  obtain⟨x,hx,e2⟩:=aE b2 o2 Q C;have hne:b≠b2:=fun e'=>h1 x hx (e2.trans e'.symm)
  have:=(hi.inj b b2 o o2 lb l2 u (hB b2 o2 Q) A M k4.symm hne).2;rw[C] at this;cases this
 have hle:=sr.le am
 have ar:fb Y O w Y' (JL O e) w':=by
  refine⟨fun b hb=>?_,?_,sr.size,fun r L a2=>sr.frame r L fun hw=>a2 (X r hw),fun r hw L=>?_,sr.tape,sr.os,sr.out⟩
  ·exact d b (by have:b<O.next:=hb;rw[en] at this;exact this)
  ·show O.next<=e.next';rw[en];exact w2
  obtain⟨b,o,l,h1,u,A,rfl⟩:=hw;rcases hold b o h1 with ⟨x,_,_,_,K,E⟩ | ⟨Q,C,M⟩
  ·exact X _<|sr.wr _ ⟨b,o,l,K,E,A,Z⟩ L
  rw[d b M] at A;exact⟨b,o,l,C,u,A,Z⟩
 refine hR Y' w' x ⟨⟨fun b hb=>?_,ir.dz,fun b o l h1 u=>?_,fun b b' o o' l l' h1 u A N he hne=>?_⟩,hi.oI.of ar⟩ ar hv
 ·have I:e.next'<=b:=hb;refine⟨(ir.fresh b (by rw[a1];exact I)).1,?_⟩;cases h:(JL O e).m.get b with
  | none=>rfl
  | some o=>
   rcases hold b o h with ⟨x,hx,h1,_⟩ | ⟨_,_,A⟩
   ·have:=(w5 x hx).2.1;rw[tA,h1] at this;exact absurd this<|Nat.not_lt.2 I
   exact absurd (zh_ A w2)<|Nat.not_lt.2 I
 ·rcases hold b o h1 with ⟨x,_,_,_,L,_⟩ | ⟨Q,C,M⟩
  ·exact ir.obj b o l L u
  rw[d b M] at u;obtain⟨z,hz,a3⟩:=hi.obj b o l C u;exact⟨z,by rw[sr.frame _ (hi.dz b l u)<|B b o l Q C u];exact hz,a3.mono hle⟩
 have cross:∀(b b':Nat) (o o':cN) (l l':Loc),σr.m.get b=some o->o.ro=false->(∀x∈e.l,x.1≠b')->O.m.get b'=some o'->b'<e.next->Y' b=some l->Y' b'=some l'->l.dz=l'.dz->False:=fun b b' o o' l l' Q C M k4 k5 k6 k7 k8=>by
  rw[d b' k5] at k7;have hlt:=hi.dz b' l' k7;have:=sr.wr l.dz ⟨b,o,l,Q,C,k6,Z⟩ (by rw[k8];exact hlt);rw[k8] at this;exact B b' o' l' M k4 k7 this
 rcases hold b o h1 with ⟨x,_,_,_,L,E⟩ | ⟨Q,C,M⟩
 ·rcases hold b' o' u with ⟨x',_,_,_,K,_⟩ | ⟨ao,aa,ab⟩
  ·exact ir.inj b b' o o' l l' L K A N he hne
  exact(cross b b' o o' l l' L E ao aa ab A N he).elim
 rcases hold b' o' u with ⟨x',_,_,_,K,ap⟩ | ⟨ao,aa,ab⟩
 ·exact(cross b' b o' o l' l K ap Q C M N A he.symm).elim
 rw[d b M] at A;rw[d b' ab] at N;exact hi.inj b b' o o' l l' C aa A N he hne
theorem xY {gl:Nat} {laid:List (Nat×List V)} {f:Nat} {args:List V}:∀{mem:List ME} {e:ME},HV gl laid mem f args O=some e->e∈mem/\LR gl laid e f args O=true
 | [],e,h=>by cases h
 | y::mem,e,h=>by
  have h':(bif LR gl laid y f args O then some y else HV gl laid mem f args O)=some e:=h;rw[bM] at h';split at h'
  ·rename_i hh;cases h';exact⟨mS_,hh⟩
  obtain⟨h1,d⟩:=xY h';exact⟨mC_ _ h1,d⟩
end
def RJ (gl:Nat) (laid:List (Nat×List V)) (mem:List ME) (f:Nat) (args:List V) (O:aB):Option (V×aB):=
 Option.rec (motive:=fun _=>Option (V×aB)) none (fun e=>some (e.v,JL O e)) (HV gl laid mem f args O)
theorem Pb {P:Program} {gl:Nat} {laid:List (Nat×List V)} {G:Cx} (d:G.gl=gl) (hl:G.laid=laid) {mem:List ME} (h:∀e∈mem,US P gl laid e) (f:Nat) (args:List V) (O:aB) (v:V) (O':aB) (hk:RJ gl laid mem f args O=some (v,O'))
  (Y:Ren) (w:World) (xs:Array Value) (hi:Inv Y O w) (u:GR Y G) (hx:dA Y args xs.toList):Calls P f xs w fun e w'=>∃x Y',e= .returned x/\VR Y' v x/\Inv Y' O' w'/\fb Y O w Y' O' w':=by
 subst d;subst hl;unfold RJ at hk;cases hf:HV G.gl G.laid mem f args O with
 | none=>rw[hf] at hk;cases hk
 | some e=>
  rw[hf] at hk;cases hk;obtain⟨h1,z⟩:=xY hf;exact Gx (h e h1) z hi u hx fun Y' w' x i s hv=>⟨x,Y',Z,hv,i,s⟩
theorem F9:Tryz.prog.follows .mixedOrders=true:=by kernel_rfl
def H2 (_:Nat):Bool:=false
def RH (_:Nat):Bool:=false
theorem RX (g:Nat) (h:H2 g=true):xf Tryz.prog g:=by cases h
def xB:List V:=[.bool false,.bool false,.bool false,.bool false,.int .i64 0,.bool true,.bool false,.bool false,.bool false,.int .i64 1,.bool true,.bool true,.bool true,.bool false,.int .i64 0,.bool false,.bool true,.bool true,.bool false,.int .i64 1,.bool true,.bool true,.bool true,.bool false,.int .i64 2,.bool true,.bool true,.bool true,.bool false,.int .i64 1,.bool true,.bool true,.bool true,.bool false,.int .i64 1,.bool false,.bool false,.bool true,.bool false,.int .i64 0,.bool false,.bool false,.bool false,.bool false,.int .i64 1,.bool false,.bool false,.bool false,.bool false,.int .i64 1,.bool false,.bool false,.bool false,.bool true,.int .i64 0,.bool false,.bool false,.bool false,.bool true,.int .i64 1,.bool false,.bool false,.bool false,.bool false,.int .i64 0,.bool false,.bool false,.bool false,.bool false,.int .i64 0]
def BK:List V:=[.int .u64 1,.int .u64 10,.int .u64 100,.int .u64 1000,.int .u64 10000,.int .u64 100000,.int .u64 1000000,.int .u64 10000000,.int .u64 100000000,.int .u64 1000000000,.int .u64 10000000000,.int .u64 100000000000,.int .u64 1000000000000,.int .u64 10000000000000,.int .u64 100000000000000,.int .u64 1000000000000000,.int .u64 10000000000000000,.int .u64 100000000000000000,.int .u64 1000000000000000000,.int .u64 10000000000000000000]
def BM:List V:=[.int .u8 0,.int .u8 1,.int .u8 28,.int .u8 2,.int .u8 29,.int .u8 14,.int .u8 24,.int .u8 3,.int .u8 30,.int .u8 22,.int .u8 20,.int .u8 15,.int .u8 25,.int .u8 17,.int .u8 4,.int .u8 8,.int .u8 31,.int .u8 27,.int .u8 13,.int .u8 23,.int .u8 21,.int .u8 19,.int .u8 16,.int .u8 7,.int .u8 26,.int .u8 12,.int .u8 18,.int .u8 6,.int .u8 11,.int .u8 5,.int .u8 10,.int .u8 9]
def BN:List V:=[.int .u8 0,.int .u8 1,.int .u8 56,.int .u8 2,.int .u8 57,.int .u8 49,.int .u8 28,.int .u8 3,.int .u8 61,.int .u8 58,.int .u8 42,.int .u8 50,.int .u8 38,.int .u8 29,.int .u8 17,.int .u8 4,.int .u8 62,.int .u8 47,.int .u8 59,.int .u8 36,.int .u8 45,.int .u8 43,.int .u8 51,.int .u8 22,.int .u8 53,.int .u8 39,.int .u8 33,.int .u8 30,.int .u8 24,.int .u8 18,.int .u8 12,.int .u8 5,.int .u8 63,.int .u8 55,.int .u8 48,.int .u8 27,.int .u8 60,.int .u8 41,.int .u8 37,.int .u8 16,.int .u8 46,.int .u8 35,.int .u8 44,.int .u8 21,.int .u8 52,.int .u8 32,.int .u8 23,.int .u8 11,.int .u8 54,.int .u8 26,.int .u8 40,.int .u8 15,.int .u8 34,.int .u8 20,.int .u8 31,.int .u8 10,.int .u8 25,.int .u8 14,.int .u8 19,.int .u8 9,.int .u8 13,.int .u8 8,.int .u8 7,.int .u8 6]
def kg:List (Nat×List V):=[(0,xB),(3,BK),(4,BM),(5,BN)]
theorem Wq:Di 6 kg=true:=by kernel_rfl
def GK:Cx:=⟨6,H2,RH,fun _ _=>none,kg,[],fun _ _ _=>none,RJ 6 kg []⟩
theorem Ot:∀e∈([]:List ME),US Tryz.prog 6 kg e:=fun e h=>by cases h
theorem Vn:zJ Tryz.prog GK:=⟨RX,(fun f args v h=>by cases h),(fun e h=>by cases h),fun f a s v s' h Y w xs hi d hx=>Pb (G:=GK) Z Z Ot f a s v s' h Y w xs hi d hx⟩
theorem T6 (E:Nat->TypeId):qJ (D5 Tryz.prog GK 2000 4 [] (σG 6 kg E))=true:=by kernel_rfl
theorem RI:Hu Tryz.prog 6 kg 4 [] (.bool true):=Gu (G:=GK) F9 Vn Wq T6
variable {ps:List MemPlace} {vs:List V} {fuel:Nat} {sp:Nat->Bool} {P:Program}
section
variable {H_:Type} {O:aB}
def Fe (d:DataW H_):cm:=⟨Cp<|kh d 0,Cp<|kh d 1,Cp<|kh d 2,Cp<|kh d 3,Cp<|kh d 4⟩
theorem R8 {d:DataW H_} (hf:Fit Tryz.prog (fuel+2) 38 d) (hd:fF Tryz.prog O (fuel+2) 38 d vs):gG (Fe d) vs:=by
  obtain⟨hl,h⟩:=Km (m:=5) Tryz.underlying38 U U hf hd
  obtain⟨a,b,c,e,g,rfl⟩:∃a b c e g,vs= [a,b,c,e,g]:=by
    match vs,hl with
    | [a,b,c,e,g],_=>exact⟨a,b,c,e,g,Z⟩
  obtain⟨u,z⟩:Fit Tryz.prog _ 3 (kh d 0)/\fF Tryz.prog O _ 3 (kh d 0) (([a,b,c,e,g].drop 0).take<|Tryz.prog.cellsOf 3):=h 0 _ Z;obtain⟨A,B⟩:Fit Tryz.prog _ 3 (kh d 1)/\fF Tryz.prog O _ 3 (kh d 1) (([a,b,c,e,g].drop 1).take<|Tryz.prog.cellsOf 3):=h 1 _ Z;obtain⟨C,E⟩:Fit Tryz.prog _ 3 (kh d 2)/\fF Tryz.prog O _ 3 (kh d 2) (([a,b,c,e,g].drop 2).take<|Tryz.prog.cellsOf 3):=h 2 _ Z;obtain⟨G,I⟩:Fit Tryz.prog _ 2 (kh d 3)/\fF Tryz.prog O _ 2 (kh d 3) (([a,b,c,e,g].drop 3).take<|Tryz.prog.cellsOf 2):=h 3 _ Z;obtain⟨K,L⟩:Fit Tryz.prog _ 2 (kh d 4)/\fF Tryz.prog O _ 2 (kh d 4) (([a,b,c,e,g].drop 4).take<|Tryz.prog.cellsOf 2):=h 4 _ Z;have M:Tryz.prog.cellsOf 3=1:=by kernel_rfl
  have N:Tryz.prog.cellsOf 2=1:=by kernel_rfl
  have e0:=(uR Tryz.underlying3 u z).1;have e1:=(uR Tryz.underlying3 A B).1;have e2:=(uR Tryz.underlying3 C E).1;have e3:=(uR Tryz.underlying2 G I).1;have e4:=(uR Tryz.underlying2 K L).1;rw[M] at e0 e1 e2;rw[N] at e3 e4;simp only[List.drop_zero,List.take_succ_cons,List.take_zero,List.drop_succ_cons,List.cons.injEq,and_true] at e0 e1 e2 e3 e4;subst e0;subst e1;subst e2;subst e3;subst e4;rfl
def Ul (d:DataW H_):List (List cm):=(mg d).map fun r=>(mg r).map Fe
theorem O7 (hn:∀(b:Nat) (o:cN),O.m.get b=some o->b<O.next) {d:DataW H_} (hf:Fit Tryz.prog (fuel+4) 23 d) (hd:fF Tryz.prog O (fuel+4) 23 d vs):∃v,vs= [v]/\bO (IX O) 1 (RL (IX O) 5 gG) (Ul d) v:=by
  have rowE:∀(x:DataW H_) (vs:List V),Fit Tryz.prog (fuel+3) 25 x->fF Tryz.prog O (fuel+3) 25 x vs->RL (IX O) 5 gG ((mg x).map Fe) vs:=fun x vs hf hd=>
    zo (m:=5) Fe gG Tryz.underlying25 U (by decide) hn hf hd fun x vs hf hd=>R8 hf hd
  exact zo (m:=1) (fun r=>(mg r).map Fe) (RL (IX O) 5 gG) Tryz.underlying23 U (by decide) hn hf hd rowE
end
section
variable {H_:Type} {enc:TypeId×Value->H_} {w:World}
theorem trod_int {t:TypeId} {cs:List Value} {x:DataW H_×List MemPlace} (hu:Tryz.prog.underlying t=some (.int .i64)) (h:DataW.trod enc Tryz.prog w 0 (fun _=>true) true fuel t cs=some x):∃n,cs= [.int .i64 n]:=by
  cases fuel with
  | zero=>simp[DataW.trod] at h
  | succ fuel=>
    unfold DataW.trod at h;rw[hu] at h;dsimp only at h;split at h<;>first | (rename_i he;cases he;done) | skip
    all_goals first
      | (rename_i k1 k2 n he
         cases he;split at h
         · rename_i hk
           obtain⟨d,_⟩:=hk;subst d;exact⟨n,Z⟩
         · cases h)
      | cases h
def SK (w:World) (v:Value):Prop:=v= .slice none 0 0∨∃(a:Addr) (len cap:Nat) (c:Array Value) (e:TypeId) (fr:Nat×Nat),v= .slice (some a) len cap/\w.heap[a.block]? =some (.cells c e fr)
theorem Mu {base:Nat} {t e:TypeId} {v:Value} (hu:Tryz.prog.underlying t=some (.slice e)) (d:Cell.okWide Tryz.prog w .any base t v):SK w v:=by
  unfold Cell.okWide at d;rw[hu] at d;dsimp only at d;unfold Cell.ok at d;rw[hu] at d;cases v with
  | slice a len cap=>
    cases a with
    | none=>
      try dsimp only at d
      split at d<;>first | (rename_i he;cases he;done) | skip
      all_goals first
        | (rename_i he;cases he;exact .inl Z)
        | (rename_i h1 z;cases z;done)
        | exact d.elim
    | some a=>
      obtain⟨_,_,_,aa,row,cells,u,_⟩:=d;unfold World.shape? at u;split at u
      · rename_i c e fr hh
        exact .inr ⟨a,len,cap,c,e,fr,Z,hh⟩
      · cases u
  | _=>exact d.elim
theorem trodAll_cons {ts:List TypeId} {t:TypeId} {vs:List Value} {ds:List (DataW H_)} (h:DataW.TrodAll enc P w 0 sp true (t::ts) vs ds ps):
    ∃v vs' d ds',vs=v::vs'/\ds=d::ds'/\(∃n p,DataW.trod enc P w 0 sp true n t v.cells.toList=some (d,p))/\∃q,DataW.TrodAll enc P w 0 sp true ts vs' ds' q:=by
  match vs,ds,h with
  | v::vs',d::ds',⟨p,q,⟨n,h1⟩,u,_⟩=>exact⟨v,vs',d,ds',Z,Z,⟨n,p,h1⟩,q,u⟩
theorem trodAll_nil {vs:List Value} {ds:List (DataW H_)} (h:DataW.TrodAll enc P w 0 sp true [] vs ds ps):vs= []/\ds= []:=by
  match vs,ds,h with
  | [],[],_=>exact⟨Z,Z⟩
end
end Go.Ev
namespace Go.Proofs
open Go.Shelf Go.Ev
def Tryz.Hd:Go.Shelf.Ren:=⟨fun | 6=>17 | 15=>43 | 14=>42 | 28=>94 | 29=>95 | 20=>86 | 21=>87 | 22=>88 | 23=>89 | 24=>90 | 25=>91 | 26=>92 | 27=>93 | 46=>122 | 47=>123 | 48=>124 | 49=>125 | 50=>126 | 57=>158 | n=>n,fun | 22=>26 | 24=>52 | 25=>53 | 3=>3 | 39=>99 | 0=>0 | 53=>142 | 55=>144 | 4=>4 | 46=>135 | 45=>134 | 50=>139 | 5=>5 | 9=>9 | 66=>185 | 70=>189 | 76=>215 | 77=>216 | n=>n,fun | n=>n⟩
theorem Tryz.Sh:Go.Proofs.SlLaysF0.n6 Tryz.prog Tryz.Hd:={
 mixed:=by kernel_rfl
 f6:=⟨Tryz.f17.name,by decide,Tryz.func17.trans<|congrArg some U⟩
 f14:=⟨Tryz.f42.name,by decide,Tryz.func42.trans<|congrArg some U⟩
 f15:=Tryz.func43.trans (congrArg some U)
 f20:=⟨Tryz.f86.name,by decide,Tryz.func86.trans<|congrArg some U⟩
 f21:=⟨Tryz.f87.name,by decide,Tryz.func87.trans<|congrArg some U⟩
 f22:=⟨Tryz.f88.name,by decide,Tryz.func88.trans<|congrArg some U⟩
 f23:=⟨Tryz.f89.name,by decide,Tryz.func89.trans<|congrArg some U⟩
 f24:=⟨Tryz.f90.name,by decide,Tryz.func90.trans<|congrArg some U⟩
 f25:=⟨Tryz.f91.name,by decide,Tryz.func91.trans<|congrArg some U⟩
 f26:=⟨Tryz.f92.name,by decide,Tryz.func92.trans<|congrArg some U⟩
 f27:=⟨Tryz.f93.name,by decide,Tryz.func93.trans<|congrArg some U⟩
 f28:=Tryz.func94.trans (congrArg some U)
 f29:=Tryz.func95.trans (congrArg some U)
 f46:=⟨Tryz.f122.name,by decide,Tryz.func122.trans<|congrArg some U⟩
 f47:=Tryz.func123.trans (congrArg some U)
 f48:=Tryz.func124.trans (congrArg some U)
 f49:=⟨Tryz.f125.name,by decide,Tryz.func125.trans<|congrArg some U⟩
 f50:=⟨Tryz.f126.name,by decide,Tryz.func126.trans<|congrArg some U⟩
 f57:=⟨Tryz.f158.name,by decide,Tryz.func158.trans<|congrArg some U⟩
 t0:=Tryz.underlying0
 a0:=Tryz.isAgg0
 z0:=Tryz.sizeOf0
 v0:=Tryz.zeroValue0
 t3:=Tryz.underlying3
 a3:=Tryz.isAgg3
 z3:=Tryz.sizeOf3
 v3:=Tryz.zeroValue3
 t4:=Tryz.underlying4
 a4:=Tryz.isAgg4
 z4:=Tryz.sizeOf4
 v4:=Tryz.zeroValue4
 t5:=Tryz.underlying5
 a5:=Tryz.isAgg5
 z5:=Tryz.sizeOf5
 v5:=Tryz.zeroValue5
 t9:=Tryz.underlying9
 a9:=Tryz.isAgg9
 z9:=Tryz.sizeOf9
 v9:=Tryz.zeroValue9
 t22:=Tryz.underlying26
 a22:=Tryz.isAgg26
 z22:=Tryz.sizeOf26
 v22:=Tryz.zeroValue26
 t25:=Tryz.underlying53
 a25:=Tryz.isAgg53
 z25:=Tryz.sizeOf53
 v25:=Tryz.zeroValue53
 t39:=Tryz.underlying99
 a39:=Tryz.isAgg99
 z39:=Tryz.sizeOf99
 v39:=Tryz.zeroValue99
 t45:=Tryz.underlying134
 a45:=Tryz.isAgg134
 z45:=Tryz.sizeOf134
 v45:=Tryz.zeroValue134
 t46:=Tryz.underlying135
 a46:=Tryz.isAgg135
 z46:=Tryz.sizeOf135
 v46:=Tryz.zeroValue135
 t50:=Tryz.underlying139
 a50:=Tryz.isAgg139
 z50:=Tryz.sizeOf139
 v50:=Tryz.zeroValue139
 t53:=Tryz.underlying142
 a53:=Tryz.isAgg142
 z53:=Tryz.sizeOf142
 v53:=Tryz.zeroValue142
 t55:=Tryz.underlying144
 a55:=Tryz.isAgg144
 z55:=Tryz.sizeOf144
 v55:=Tryz.zeroValue144
 t66:=Tryz.underlying185
 a66:=Tryz.isAgg185
 z66:=Tryz.sizeOf185
 v66:=Tryz.zeroValue185
 t70:=Tryz.underlying189
 a70:=Tryz.isAgg189
 z70:=Tryz.sizeOf189
 v70:=Tryz.zeroValue189
 t76:=Tryz.underlying215
 a76:=Tryz.isAgg215
 z76:=Tryz.sizeOf215
 v76:=Tryz.zeroValue215
 t77:=Tryz.underlying216
 a77:=Tryz.isAgg216
 z77:=Tryz.sizeOf216
 v77:=Tryz.zeroValue216}
end Go.Proofs
namespace Go.Ev
variable [Env]
variable {O:aB}
def Ko (f:Nat) (args:List V):Option V:=bif Nat.beq f 4 then(match args with | []=>some (.bool true) | _=>none) else none
def QR (_:Nat):Bool:=false
def Ut:Cx:=⟨6,H2,QR,Ko,kg,[],fun _ _ _=>none,fun _ _ _=>none⟩
theorem IL (f:Nat) (args:List V) (v:V) (h:Ko f args=some v):Hu Tryz.prog 6 kg f args v:=by
 unfold Ko at h;cases h5:Nat.beq f 4 with
 | true=>
  rw[h5] at h;simp only[cond_true] at h;cases args with
  | nil=>cases h;rw[nB h5];exact RI
  | cons _ _=>cases h
 | false=>
  rw[h5] at h;cases h
theorem Bk (f:Nat) (a:List V) (h:JS f=false):Ko f a=none:=by
 unfold Ko;rw[show Nat.beq f 4=false from h];rfl
theorem Tr:zJ Tryz.prog Ut:=⟨RX,IL,(fun e h=>by cases h),(fun f a s v s' h=>by cases h)⟩
theorem MX:Plain Ut:=⟨fun _ _ _ _=>Z,Bk,Z,fun _ _ _=>Z,fun f h=>Z⟩
def L9 (f:Nat) (a:List V) (s:aB):Option (V×aB):=
 bif Nat.beq f 17 then zq Tryz.prog Ut 17 4 (fun g=>Nat.beq g 18) f a s else none
def GC:Cx:=⟨6,H2,QR,Ko,kg,[],fun _ _ _=>none,L9⟩
theorem Vb (g:Nat) (h:Nat.beq g 18=true) (args:Array Value) (w:World):(callFunc g args).run Tryz.prog w= .ok (.enter g args) w:=by
 obtain rfl:=nB h;exact enters_of Tryz.func18 U Z args w
theorem Vm:zJ Tryz.prog GC:=by
 refine⟨RX,IL,(fun e h=>by cases h),fun f a s v s' h Y w xs hi d hx=>?_⟩;have h:L9 f a s=some (v,s'):=h;unfold L9 at h;cases h1:Nat.beq f 17 with
 | true=>
  rw[h1] at h;simp only[cond_true] at h;exact He F9 Tr Tryz.Sh (by decide) Tryz.isAgg52 Tryz.sizeOf52 Vb h Y w xs hi d hx
 | false=>
  rw[h1] at h;cases h
theorem PF:Plain GC:=⟨fun f a s h=>by
 show L9 f a s=none;unfold L9;rw[show Nat.beq f 17=false from h];rfl,Bk,Z,fun _ _ _=>Z,fun f h=>Z⟩
theorem Uj:Rb GC Ut:=⟨PF,MX,fun a s=>Z⟩
theorem re {gl:Nat} {g:Nat} {c:List V} {r:List (Nat×List V)} {e:TypeId} (h1:Nat.ble (Nat.succ g) gl=true) (d:fo c=true) (u:lF c c=true) (z:O.m.get g=some (.row c e true)) (h5:kz gl O r=true):kz gl O ((g,c)::r)=true:=by
 show(bif Nat.ble (Nat.succ g) gl then(match O.m.get g with
  | some (.row cells _ true)=>bif fo c then(bif lF cells c then kz gl O r else false) else false
  | _=>false) else false)=true
 rw[z,h1];dsimp only;rw[d,u,h5];rfl
structure KD (K:KP):Prop where
 h0:∃e,K (posOf 0) (.row xB e true)
 h3:∃e,K (posOf 3) (.row BK e true)
 h4:∃e,K (posOf 4) (.row BM e true)
 h5:∃e,K (posOf 5) (.row BN e true)
theorem KD.laid {K:KP} (h:KD K) (O:aB) (L:Own) (ar:H O K L):kz GC.gl O GC.laid=true:=by
 obtain⟨⟨e0,h0⟩,⟨e3,d⟩,⟨e4,u⟩,⟨e5,h5⟩⟩:=h;exact re (gl:=6) (by decide) U U (ar.cg h0)<|re (by decide) U U (ar.cg d)<|re (by decide) U U (ar.cg u)<|re (by decide) U U (ar.cg h5) Z
theorem RB (E:Nat->TypeId):(σG 6 kg E).m.get (posOf 0)=some (.row xB (E 0) true):=rfl
theorem RC (E:Nat->TypeId):(σG 6 kg E).m.get (posOf 3)=some (.row BK (E 3) true):=rfl
theorem RD (E:Nat->TypeId):(σG 6 kg E).m.get (posOf 4)=some (.row BM (E 4) true):=rfl
theorem RE (E:Nat->TypeId):(σG 6 kg E).m.get (posOf 5)=some (.row BN (E 5) true):=rfl
section
variable {H_:Type} {enc:TypeId×Value->H_} {w:World}
theorem JM (T:KF w) (E:6<=w.heap.size) (hl:∀x∈kg,k9 w x) {F_:Nat} {q0 q1:List Value} {u z:DataW H_×List MemPlace}
  (N:DataW.trod enc Tryz.prog w 0 (fun _=>true) true (F_+6) 22 q0=some u) (Q:DataW.trod enc Tryz.prog w 0 (fun _=>true) true (F_+6) 23 q1=some z):
  ∃(Y:Ren) (O:aB) (B C:V),Inv Y O w/\ll O/\GR Y GC/\dA Y [B] q0/\dA Y [C] q1/\bO (IX O) 1 ek ((mg u.1).map Cp) B/\bO (IX O) 1 (RL (IX O) 5 gG) (Ul z.1) C/\KD (IX O):=by
 have hw:∃(r:Nat) (c:Array Value) (e:TypeId) (fr:Nat×Nat),w.heap[r]? =some (Obj.cells c e fr):=by
  obtain⟨c,e,fr,h,_⟩:=hl (0,xB) (.head _);exact⟨0,c,e,fr,h⟩
 have hi0:=S9 T E Wq hl
 have I:ll (σG 6 kg<|elemAt w):=fun b o h=>by
  obtain⟨x,_,_,rfl⟩:=OG_get h;rfl
 obtain⟨Y1,K,aa,R,W,l1,X,v0⟩:=lay hw (F_+6) 22 q0 u.1 u.2 N _ _ hi0 I;obtain⟨Y2,A,ab,S,r2,l2,d1,v1⟩:=lay hw (F_+6) 23 q1 z.1 z.2 Q _ _ R W;have n1:∀(b:Nat) (o:cN),K.m.get b=some o->b<K.next:=fun b o h=>fF.fresh R h
 have L:∀(b:Nat) (o:cN),A.m.get b=some o->b<A.next:=fun b o h=>fF.fresh S h
 have M:KP.le (IX K) (IX A):=fun b o h=>⟨L b o<|l2.get b o h.2,l2.get b o h.2⟩
 have c2:Tryz.prog.cellsOf 2=1:=by kernel_rfl
 obtain⟨B,rfl,s0⟩:=zo (m:=1) Cp ek Tryz.underlying22 c2 (by decide) n1 (qd _ _ _ _ u.2 N) X fun x vs hf hd=>(uR Tryz.underlying2 hf hd).1
 obtain⟨C,rfl,s1⟩:=O7 L (qd _ _ _ _ z.2 Q) d1;have d:∀(b:Nat) (o:cN),(σG 6 kg<|elemAt w).m.get b=some o->IX A b o:=fun b o h=>⟨L b o<|l2.get b o<|l1.get b o h,l2.get b o<|l1.get b o h⟩
 refine⟨Y2,A,B,C,S,r2,fun g hg=>?_,v0.mono l2.le,v1,s0.mono M fun _ _ h=>h,s1,⟨⟨_,d _ _<|RB _⟩,⟨_,d _ _<|RC _⟩,⟨_,d _ _<|RD _⟩,⟨_,d _ _<|RE _⟩⟩⟩;exact⟨_,l2.le _ _<|l1.le _ _ (show YG w 6 g=some ⟨g,0,zn w g⟩ from if_pos hg)⟩
end
end Go.Ev
namespace Go.Ev
theorem Jb {H_:Type} {enc:TypeId×Value->H_} {P:Program} {w w':World} {sp:Nat->Bool} (d:∀r:Nat,r<w.heap.size->w'.heap[r]? =w.heap[r]?) {fuel:Nat} {t:TypeId} {cs:List Value} {x:DataW H_×List MemPlace}
  (h:DataW.trod enc P w 0 sp true fuel t cs=some x):DataW.trod enc P w' 0 sp true fuel t cs=some x:=by
 refine DataW.trod_carry fuel t cs x h fun p hp=>?_
 have hlt:=DataW.trod_lt fuel t cs x h p hp;cases p with
 | cell b off=>
  show w'.cell? ⟨b,off,none⟩=w.cell? ⟨b,off,none⟩;unfold World.cell?;rw[d b hlt]
 | map b=>exact d b hlt
theorem tB {H_:Type} {enc:TypeId×Value->H_} {P:Program} {w w':World} {sp:Nat->Bool} (d:∀r:Nat,r<w.heap.size->w'.heap[r]? =w.heap[r]?):∀{ts:List TypeId} {vs:List Value} {ds:List (DataW H_)} {ps:List MemPlace},
  DataW.TrodAll enc P w 0 sp true ts vs ds ps->DataW.TrodAll enc P w' 0 sp true ts vs ds ps
 | [],[],[],_,h=>h
 | _::_,_::_,_::_,_,⟨p,q,⟨n,h1⟩,u,e⟩=>⟨p,q,⟨n,Jb d h1⟩,tB d u,e⟩
theorem EM {H_:Type} {enc:TypeId×Value->H_} {P:Program} (hl:laidOutB P=true) (hm:mapsRowed P=true) (hz:((List.range P.types.size).all fun t=>match P.underlying t with | some (.slice e)=>decide (0<P.cellsOf e) | _=>true)=true) {w w':World} (hk:iN w w') {ts:List TypeId} {vs:List Value} {ds:List (DataW H_)} {ps:List MemPlace}
  (hT:(ts.all fun t=>decide (t<P.types.size))=true) (h:DataW.TrodAll enc P w 0 (fun _=>true) true ts vs ds ps) {sp:Nat->Bool} (d:∀p∈ps,sp p.block=true):DataW.TrodAll enc P w' 0 sp true ts vs ds ps:=
 tB hk.same (h.respare (kids_rows hl hm) (slices_full_of P hz) (fun t u=>of_decide_eq_true (aE_.1 hT t u)) d)
end Go.Ev
end
