/- Part of the proof: an evaluator of the model's code, rules for walks on it, walks. Without conditions. -/
import Derived.Test.YtpomgjnfncgkgaaGreatDoorEb
import Derived.Test.YtpomgjnfncgkgaaGreatDoorEe
import Derived.Test.YtpomgjnfncgkgaaGreatDoorEc
set_option linter.unusedSectionVars false
set_option linter.unusedVariables false
set_option linter.unusedSimpArgs false
noncomputable section
namespace Go.Ev
variable [Env]
open Go.Proofs
set_option maxRecDepth 4000
set_option maxHeartbeats 8000000
theorem LK {G:Cx} (hG:Plain G) (a4:G.fk 70=true) (a5:G.ov 106=true) {K:KP} (bm:rh G K) {k:Nat} {l:List XC} {lv:V} (hl:bR K 2 (mY K k) l lv) {r:XM} (hinv:tC k l r) {a b c d:V} (hg:eN K r.g a b c d) {x0 x1 x2 x3 x4 x5:Int} (hm:vf r.mem x0 x1 x2 x3 x4 x5) {t:Nat} (ht:t<l.length) {U:D} {L:Own} (aq:J U K L):
  bk Tryz.prog G 54 [.agg [.int .i64 x0,.int .i64 x1,.int .i64 x2,.int .i64 x3,.int .i64 x4,.int .i64 x5,a,b,c,d],lv,.int .i64 (.ofNat (t+1))] U fun v U'=>(∃e,v= .tuple [.agg NI,.int .i64 e]/\e=(eG k l r t).2/\I e 0=false/\J U' K L)∨
   ∃K1 r' y0 y1 y2 y3 y4 y5 a' b' c' d',KP.le K K1/\eG k l r t=(some r',0)/\v= .tuple [.agg [.int .i64 y0,.int .i64 y1,.int .i64 y2,.int .i64 y3,.int .i64 y4,.int .i64 y5,a',b',c',d'],T]/\eN K1 r'.g a' b' c' d'/\vf r'.mem y0 y1 y2 y3 y4 y5/\J U' K1 L:=by
 obtain⟨xc,W⟩:=cm ht;obtain⟨row,E⟩:=cm (show t<r.g.threads.length from by rw[hinv.len];exact ht);have hck:=hinv.Gi;obtain⟨b1_,b2_,b3_,_⟩:=cK hck;have hrl:=b3_ row (gB_ E);have hord:=j0 hck;have hnx:=kI.2 (hinv.fits t xc row W E);have hll:=hl.bG;obtain⟨N_,hN⟩:∃N_,N_=(bI k xc row).1:=⟨_,Z⟩;have hml:=hinv.mem;have C:KP.le K K:=KP.le_refl K;have hgl0:=bm;refine PS hG Tryz.func54 Z<|Pt 2 Z<|kp aq Z (cz Z Z) (fun U b1 aq=>?_);refine kp aq Z (QE (cs:=[T,T,T,T,T,T,.ax,.ax,.ax,.ax])) (fun U b2 aq=>?_);refine OX aq 10 [6,1,1] Z Z<|Qu (e:=57) (m:=1) hg.threads E Z Z Z (cI<|ej (t:=t) (by have:=hl.bG;omega)) (fun ch ca bo cb bs=>?_);have hr21':=bs;obtain⟨ci,rfl,a8⟩:=hr21';refine O Z (QF aq bo Z Z) Z<|OO 8 Z<|Qu (e:=33) (m:=2) hl W Z Z Z (cI<|ej (t:=t) (by have:=hl.bG;omega)) (fun ck cc bt ce bv=>?_);have hr27':=bv;obtain⟨cl,rfl,bw⟩:=hr27';refine O Z (QG aq bt Z Z) Z<|vQ 1 Z<|bf Z (Qz Z Z Z) (fun _=>Z) (JS hG bm bw a8 B aq) (fun U aq=>?_);rw[hnx,<-hN];refine PZ 3 Z<|kp aq Z (QE (cs:=[T,T,T,T,T,T,T,T,T,T,T])) (fun U b3 aq=>?_);refine bO aq Z (QH Z Z Z aq.g0 (m:=11) Z Z (cells':=[_,_,_,_,_,_,_,_,_,_,_]) Z) Z (fun U aq=>?_);refine Om 5 Z<|Pt 3 Z<|ky Z (az Z Z Z) (fun b0=>?_) (fun b0=>?_)
 ·exact absurd b0 (by decide)
 refine OX aq 8 [10,0] Z Z<|ky Z (az Z Z Z) (fun am=>?_) (fun am=>?_)
 ·refine OO 6 Z (O Z (Qy (places:=[(0,6),(6,4)]) (zero:=[T,T,T,T,T,T,.ax,.ax,.ax,.ax]) (cs:=[_,_,_,_,_,_,_,_,_,_]) Z) Z<|eh aq Z (QH Z Z Z aq.g1 (m:=10) Z Z (cells':=[_,_,_,_,_,_,_,_,_,_]) Z) Z (fun U aq=>?_));refine Px 4 Z<|aF<|aw (?_);exact br Z Z aq.g1 (m:=10) Y Z Z (.inl ⟨10,Z,by rw[kM W E (e:=10) (by unfold jP;rw[hnx,<-hN];rw[show aX (I N_.fin 0)=true from am];rfl) Z],Z,aq.pop.pop.pop⟩)
 refine OO 7 Z<|O Z (QD a8 Z Z Z (e:=56) Z) Z<|ky Z (az Z Z Z) (fun ap=>?_) (fun ap=>?_)
 ·refine OO 6 Z (O Z (Qy (places:=[(0,6),(6,4)]) (zero:=[T,T,T,T,T,T,.ax,.ax,.ax,.ax]) (cs:=[_,_,_,_,_,_,_,_,_,_]) Z) Z<|eh aq Z (QH Z Z Z aq.g1 (m:=10) Z Z (cells':=[_,_,_,_,_,_,_,_,_,_]) Z) Z (fun U aq=>?_));refine Px 4 Z<|aF<|aw (?_);exact br Z Z aq.g1 (m:=10) Y Z Z (.inl ⟨3,Z,by rw[kM W E (e:=3) (by unfold jP;rw[hnx,<-hN];rw[show aX (I N_.fin 0)=false from am,show aX (bU (.ofNat row.length) 14)=true from ap];rfl) Z],Z,aq.pop.pop.pop⟩)
 refine OP 6 Z<|OU aq 15 [0,1,0,5,0,0] Z Z<|Pv 2 Z<|aE Z (fun a6=>?_) (fun a6=>?_)
 ·have M:nF N_=N_.ask.loc:=by unfold nF;rw[show aX (I N_.ask.kind 0)=true from a6];rfl
  refine Ot aq 14 [5,1,0,0,0,0] Z Z<|ky Z (an Z) (fun Q=>?_) (fun Q=>?_)
  ·refine PZ 2 Z<|ky Z (an Z) (fun aI=>?_) (fun aI=>?_)
   ·refine OO 13 Z (O Z (Qy (places:=[(0,6),(6,4)]) (zero:=[T,T,T,T,T,T,.ax,.ax,.ax,.ax]) (cs:=[_,_,_,_,_,_,_,_,_,_]) Z) Z<|eh aq Z (QH Z Z Z aq.g1 (m:=10) Z Z (cells':=[_,_,_,_,_,_,_,_,_,_]) Z) Z (fun U aq=>?_));refine OQ 5 Z ?_;exact br Z Z aq.g1 (m:=10) Y Z Z (.inl ⟨2,Z,by rw[kM W E (e:=2) (by unfold jP;rw[hnx,<-hN];rw[show aX (I N_.fin 0)=false from am,show aX (bU (.ofNat row.length) 14)=false from ap,show ef N_ r.g=true from by unfold ef;rw[show aX (I N_.event.kind 4)=true from Q,M,aI];rfl];rfl) Z],Z,aq.pop.pop.pop⟩)
   refine P3 aq 4 [6,0,2] Z Z<|O Z (QD hg.init Z Z Z (e:=2) Z) Z<|Pv 5 Z<|aE Z (fun a1=>?_) (fun a1=>?_)
   ·refine Pt 2 Z (O Z (Qy (places:=[(0,6),(6,4)]) (zero:=[T,T,T,T,T,T,.ax,.ax,.ax,.ax]) (cs:=[_,_,_,_,_,_,_,_,_,_]) Z) Z<|eh aq Z (QH Z Z Z aq.g1 (m:=10) Z Z (cells':=[_,_,_,_,_,_,_,_,_,_]) Z) Z (fun U aq=>?_));refine OQ 5 Z ?_;exact br Z Z aq.g1 (m:=10) Y Z Z (.inl ⟨2,Z,by rw[kM W E (e:=2) (by unfold jP;rw[hnx,<-hN];rw[show aX (I N_.fin 0)=false from am,show aX (bU (.ofNat row.length) 14)=false from ap,show ef N_ r.g=true from by unfold ef;rw[show aX (I N_.event.kind 4)=true from Q,M,aI];exact a1];rfl) Z],Z,aq.pop.pop.pop⟩)
   refine OK 4 Z ?_;have X:ef N_ r.g=false:=by unfold ef;rw[show aX (I N_.event.kind 4)=true from Q,M,aI];exact a1
   have h62x:I N_.event.kind 4=false:=bT Q;have aa:jP k xc row r.g=0:=by unfold jP;rw[hnx,<-hN,show aX (I N_.fin 0)=false from am,show aX (bU (.ofNat row.length) 14)=false from ap,X];rfl
   refine O Z (QA 0 Z) Z (O Z (QC Z aq.g0 (n:=5) (vs:=[_,_,_,_,_]) Z) Z (O Z (Qy (places:=[(0,1),(1,1)]) (zero:=[T,T]) (cs:=[_,_]) Z) Z<|kp aq Z (QE (cs:=[T,T,T,T,T])) (fun U b4 aq=>?_)));refine kp aq Z (QE (cs:=[T,T])) (fun U b5 aq=>?_);refine eh aq Z (QH Z Z Z aq.g1 (m:=5) Z Z (cells':=[_,_,_,_,_]) Z) Z (fun U aq=>?_);refine bO aq Z (QH Z Z Z aq.g0 (m:=2) Z Z (cells':=[_,_]) Z) Z (fun U aq=>?_);refine OW aq 12 [0,0,2] Z Z<|aE Z (fun R=>?_) (fun R=>?_)
   ·refine PA aq 3 [6] Z Z<|O Z (QC Z (aq.get 4 Z) (n:=4) (vs:=[_,_,_,_]) Z) Z<|vQ 1 Z ?_;obtain⟨ln,ar,a7⟩:=me (n:=N_) (g:=r.g) X h62x;refine cH Z (aR Z Z (show _=some [V.agg [a,b,c,d],V.int .i64 (.ofNat ln)] from by rw[<-ar,<-M];rfl) Y) (fun _=>Z) (tt hG hg (fun l hl=>by have:=hord l hl;omega) (.ofNat ln) aq) ?_;rintro b6 U ⟨b7,hM85,aq⟩;obtain⟨K1,C,a0,aq⟩:=aq.fy;have hw:=hM85.kq (K:=K1) fun y hy=>a0 _ hy;clear a0;replace hg:=hg.mono C
    refine OW aq 12 [5,0,2] Z Z<|aE Z (fun aY=>?_) (fun aY=>?_)
    ·refine ak<|aS (l:=zp [0,1,2,3,4,5,6,7,8,9,10]) Y Y<|al Z Z (QA 5 Z) Z<|al Z Z (QC Z (aq.get 2 Z) (n:=5) (vs:=[_,_,_,_,_]) Z) Z<|P4 aq 2 [0] Z Z ?_;obtain⟨ab,a9,hy96n⟩:=hm.at_ (a:=a) (b:=b) (c:=c) (d:=d) (show ln<r.mem.length from by rw[hml];exact a7);refine al Z Z (tA (n:=6) (e:=2) (m:=1) Y Y Z (show _=some (V.int .i64 (.ofNat ln)) from by rw[<-ar,<-M];rfl) B) Z (al Z Z (ay Z (aq.get 4 Z) Y hy96n) Z<|cA Z Z (Qz Z Z Z) (fun _=>Z) (CO hG N_.ask ab aq) (fun U aq=>?_));refine⟨aV,?_⟩;refine P1 3 Z<|z9 aq Z Z (QH Z Z Z aq.g1 (m:=5) Z Z (cells':=[_,_,_,_,_]) Z) Z (fun U aq=>?_);refine⟨aV,?_⟩;refine Py 2 Z<|ai Z<|PZ 2 Z<|O Z (QD hw Z Z Z (e:=67) Z) Z<|vQ 1 Z ?_;have cn:0<(cu r.g (.ofNat ln)).length:=by obtain⟨q,hq⟩:=g8 hck a7;rw[ez (by rw[hck];rfl) hq];exact Nat.succ_pos _
     obtain⟨ac,a3⟩:=cm (show(cu r.g (.ofNat ln)).length-1<(cu r.g (.ofNat ln)).length from by omega);refine Qu (e:=67) (m:=2) hw a3 Z Z Z (cI<|kY (b:=1) B hw.bG) (fun cg b8 bb b9 be=>?_);obtain rfl:=be;refine O Z (QG aq bb Z Z) Z<|bO aq Z (QH Z Z Z aq.g0 (m:=2) Z Z (cells':=[_,_]) Z) Z (fun U aq=>?_);refine PC aq 9 [0,1] Z Z<|aE Z (fun ao=>?_) (fun ao=>?_)
     ·refine Pt 3 Z<|O Z (QD hw Z Z Z (e:=67) Z) Z<|PE aq 8 [4,1,0] Z Z<|O Z (tA (n:=6) (e:=2) (m:=1) Y Y Z (show _=some (V.int .i64 (.ofNat ln)) from by rw[<-ar,<-M];rfl) B) Z ?_;obtain⟨z0,z1,z2,z3,z4,z5,bi,bl⟩:=hm.set (a:=a) (b:=b) (c:=c) (d:=d) (show ln<r.mem.length from by rw[hml];exact a7) (bL N_.ask ab).write;refine cC aq (.there (.there (.there (.there .here)))) Z (aL Z Z Z (aq.get 4 Z) (m:=1) Y Z (by show 0+ln*1+1<=10;omega) Z (cells':=c6 z0 z1 z2 z3 z4 z5 a b c d) bi) Z (fun U aq=>?_);refine OX aq 5 [6] Z Z<|O Z (QC Z (aq.get 4 Z) (n:=4) (vs:=[_,_,_,_]) Z) Z<|vQ 1 Z<|O Z (QC Z aq.g1 (n:=5) (vs:=[_,_,_,_,_]) Z) Z<|O Z (QC Z aq.g0 (n:=2) (vs:=[_,_]) Z) Z<|vQ 1 Z ?_;have hgl1:=hgl0;have F:fz (bI k xc row).1 r.mem r.g=⟨bL N_.ask ab,ac,.ofNat (cu r.g (.ofNat ln)).length,r.mem.set ln (bL N_.ask ab).write⟩:=by rw[<-hN];unfold fz;rw[ar];dsimp only;rw[bT R,show aX (I N_.ask.kind 0)=true from aY];simp only[ct,cf];rw[show(Int.ofNat ln).toNat=ln from Z,a9,List.getLast?_eq_getElem?,a3];simp only[Option.getD_some];rw[show aX (I (bL N_.ask ab).kind 1)=true from ao];rfl
      have hdo:=oq W E aa F;refine cH Z (Qz Z Z Z) (fun _=>Z) (zj hG a4 a5 hg _ _ (bL N_.ask ab) ac aq) ?_;rintro _ U (⟨er,z,rfl,aq⟩ | ⟨g2,a2,b2,c2,d2,M2,z,rfl,A,aq⟩)
      ·have hS:eG k l r t=(none,er):=by rw[hdo];unfold we;rw[show gf r.g (.ofNat (t+1)) (bL N_.ask ab) ac (.ofNat (cu r.g (.ofNat ln)).length)=(none,er) from z]
       have her:=nQ z;refine P3 aq 4 [6] Z Z<|cC aq (.there (.there (.there (.there .here)))) Z (QH Z Z Z (aq.get 4 Z) (m:=4) Z Z (cells':=[_,_,_,_,_,_,_,_,_,_]) Z) Z (fun U aq=>?_);refine ON 10 Z<|aE Z (fun u=>?_) (fun u=>?_)
       ·refine Pt 2 Z (O Z (Qy (places:=[(0,6),(6,4)]) (zero:=[T,T,T,T,T,T,.ax,.ax,.ax,.ax]) (cs:=[_,_,_,_,_,_,_,_,_,_]) Z) Z<|vQ 1 Z<|jz aq Z (QH Z Z Z (aq.get 3 Z) (m:=10) Z Z (cells':=[_,_,_,_,_,_,_,_,_,_]) Z) Z (fun U aq=>?_));refine OQ 5 Z ?_;exact br Z Z (aq.get 3 Z) (m:=10) Y Z Z (.inl ⟨er,Z,by rw[hS],her,(aq.pop.pop.pop.pop.pop).weaken C⟩)
       exact absurd u (by rw[her];decide)
      have hS:eG k l r t=(some ⟨r.mem.set ln (bL N_.ask ab).write,g2⟩,0):=by rw[hdo];unfold we;rw[show gf r.g (.ofNat (t+1)) (bL N_.ask ab) ac (.ofNat (cu r.g (.ofNat ln)).length)=(some g2,0) from z]
      replace aq:=aq.keeps;refine P3 aq 4 [6] Z Z<|cC aq (.there (.there (.there (.there .here)))) Z (QH Z Z Z (aq.get 4 Z) (m:=4) Z (ah A.init.leaf.2<|ah A.threads.leaf.2<|ah A.from_.leaf.2<|ah A.order.leaf.2 aC) (cells':=[_,_,_,_,_,_,_,_,_,_]) Z) Z (fun U aq=>?_);refine ON 10 Z<|aE Z (fun u=>?_) (fun u=>?_)
      ·exact absurd u (by decide)
      refine OK 4 Z<|O Z (QC Z (aq.get 4 Z) (n:=10) (vs:=[_,_,_,_,_,_,_,_,_,_]) Z) Z<|jz aq Z (QH Z Z Z (aq.get 3 Z) (m:=10) Z (ah Z<|ah Z<|ah Z<|ah Z<|ah Z<|ah Z<|ah A.init.leaf.2<|ah A.threads.leaf.2<|ah A.from_.leaf.2<|ah A.order.leaf.2 aC) (cells':=[_,_,_,_,_,_,_,_,_,_]) Z) Z (fun U aq=>?_);refine Px 4 Z ?_;exact br Z Z (aq.get 3 Z) (m:=10) Y Z Z (.inr ⟨_,_,_,_,_,_,_,_,_,_,_,_,KP.le_trans C<|KP.bX _ _,hS,Z,A,bl,aq.pop.pop.pop.pop.pop⟩)
     refine OV aq 5 [6] Z Z<|O Z (QC Z (aq.get 4 Z) (n:=4) (vs:=[_,_,_,_]) Z) Z<|vQ 1 Z<|O Z (QC Z aq.g1 (n:=5) (vs:=[_,_,_,_,_]) Z) Z<|O Z (QC Z aq.g0 (n:=2) (vs:=[_,_]) Z) Z<|vQ 1 Z ?_;have hgl1:=hgl0;have F:fz (bI k xc row).1 r.mem r.g=⟨bL N_.ask ab,ac,0,r.mem⟩:=by rw[<-hN];unfold fz;rw[ar];dsimp only;rw[bT R,show aX (I N_.ask.kind 0)=true from aY];simp only[ct,cf];rw[show(Int.ofNat ln).toNat=ln from Z,a9,List.getLast?_eq_getElem?,a3];simp only[Option.getD_some];rw[show aX (I (bL N_.ask ab).kind 1)=false from ao];rfl
     have hdo:=oq W E aa F;refine cH Z (Qz Z Z Z) (fun _=>Z) (zj hG a4 a5 hg _ _ (bL N_.ask ab) ac aq) ?_;rintro _ U (⟨er,z,rfl,aq⟩ | ⟨g2,a2,b2,c2,d2,M2,z,rfl,A,aq⟩)
     ·have hS:eG k l r t=(none,er):=by rw[hdo];unfold we;rw[show gf r.g (.ofNat (t+1)) (bL N_.ask ab) ac (0)=(none,er) from z]
      have her:=nQ z;refine P3 aq 4 [6] Z Z<|cC aq (.there (.there (.there (.there .here)))) Z (QH Z Z Z (aq.get 4 Z) (m:=4) Z Z (cells':=[_,_,_,_,_,_,_,_,_,_]) Z) Z (fun U aq=>?_);refine ON 10 Z<|aE Z (fun u=>?_) (fun u=>?_)
      ·refine Pt 2 Z (O Z (Qy (places:=[(0,6),(6,4)]) (zero:=[T,T,T,T,T,T,.ax,.ax,.ax,.ax]) (cs:=[_,_,_,_,_,_,_,_,_,_]) Z) Z<|vQ 1 Z<|jz aq Z (QH Z Z Z (aq.get 3 Z) (m:=10) Z Z (cells':=[_,_,_,_,_,_,_,_,_,_]) Z) Z (fun U aq=>?_));refine OQ 5 Z ?_;exact br Z Z (aq.get 3 Z) (m:=10) Y Z Z (.inl ⟨er,Z,by rw[hS],her,(aq.pop.pop.pop.pop.pop).weaken C⟩)
      exact absurd u (by rw[her];decide)
     have hS:eG k l r t=(some ⟨r.mem,g2⟩,0):=by rw[hdo];unfold we;rw[show gf r.g (.ofNat (t+1)) (bL N_.ask ab) ac (0)=(some g2,0) from z]
     replace aq:=aq.keeps;refine P3 aq 4 [6] Z Z<|cC aq (.there (.there (.there (.there .here)))) Z (QH Z Z Z (aq.get 4 Z) (m:=4) Z (ah A.init.leaf.2<|ah A.threads.leaf.2<|ah A.from_.leaf.2<|ah A.order.leaf.2 aC) (cells':=[_,_,_,_,_,_,_,_,_,_]) Z) Z (fun U aq=>?_);refine ON 10 Z<|aE Z (fun u=>?_) (fun u=>?_)
     ·exact absurd u (by decide)
     refine OK 4 Z<|O Z (QC Z (aq.get 4 Z) (n:=10) (vs:=[_,_,_,_,_,_,_,_,_,_]) Z) Z<|jz aq Z (QH Z Z Z (aq.get 3 Z) (m:=10) Z (ah Z<|ah Z<|ah Z<|ah Z<|ah Z<|ah Z<|ah A.init.leaf.2<|ah A.threads.leaf.2<|ah A.from_.leaf.2<|ah A.order.leaf.2 aC) (cells':=[_,_,_,_,_,_,_,_,_,_]) Z) Z (fun U aq=>?_);refine Px 4 Z ?_;exact br Z Z (aq.get 3 Z) (m:=10) Y Z Z (.inr ⟨_,_,_,_,_,_,_,_,_,_,_,_,KP.le_trans C<|KP.bX _ _,hS,Z,A,hm,aq.pop.pop.pop.pop.pop⟩)
    exact absurd (aY.symm.trans a6) (by decide)
   exact absurd (R.symm.trans Q) (by decide)
  refine Oo 18 Z ?_;have X:ef N_ r.g=false:=by unfold ef;rw[show aX (I N_.event.kind 4)=false from Q];rfl
  have aa:jP k xc row r.g=0:=by unfold jP;rw[hnx,<-hN,show aX (I N_.fin 0)=false from am,show aX (bU (.ofNat row.length) 14)=false from ap,X];rfl
  refine O Z (QA 0 Z) Z (O Z (QC Z aq.g0 (n:=5) (vs:=[_,_,_,_,_]) Z) Z (O Z (Qy (places:=[(0,1),(1,1)]) (zero:=[T,T]) (cs:=[_,_]) Z) Z<|kp aq Z (QE (cs:=[T,T,T,T,T])) (fun U b4 aq=>?_)));refine kp aq Z (QE (cs:=[T,T])) (fun U b5 aq=>?_);refine eh aq Z (QH Z Z Z aq.g1 (m:=5) Z Z (cells':=[_,_,_,_,_]) Z) Z (fun U aq=>?_);refine bO aq Z (QH Z Z Z aq.g0 (m:=2) Z Z (cells':=[_,_]) Z) Z (fun U aq=>?_);refine OW aq 12 [0,0,2] Z Z<|aE Z (fun R=>?_) (fun R=>?_)
  ·exact absurd (R.symm.trans Q) (by decide)
  refine OV aq 5 [6] Z Z<|O Z (QC Z (aq.get 4 Z) (n:=4) (vs:=[_,_,_,_]) Z) Z<|vQ 1 Z<|O Z (QC Z aq.g1 (n:=5) (vs:=[_,_,_,_,_]) Z) Z<|O Z (QC Z aq.g0 (n:=2) (vs:=[_,_]) Z) Z<|vQ 1 Z ?_;have hgl1:=hgl0;have F:fz (bI k xc row).1 r.mem r.g=⟨N_.event,⟨0,0⟩,0,r.mem⟩:=by rw[<-hN];exact nj<|bj R
  have hdo:=oq W E aa F;refine cH Z (Qz Z Z Z) (fun _=>Z) (zj hG a4 a5 hg _ _ (N_.event) ⟨0,0⟩ aq) ?_;rintro _ U (⟨er,z,rfl,aq⟩ | ⟨g2,a2,b2,c2,d2,M2,z,rfl,A,aq⟩)
  ·have hS:eG k l r t=(none,er):=by rw[hdo];unfold we;rw[show gf r.g (.ofNat (t+1)) (N_.event) ⟨0,0⟩ (0)=(none,er) from z]
   have her:=nQ z;refine P3 aq 4 [6] Z Z<|cC aq (.there (.there (.there (.there .here)))) Z (QH Z Z Z (aq.get 4 Z) (m:=4) Z Z (cells':=[_,_,_,_,_,_,_,_,_,_]) Z) Z (fun U aq=>?_);refine ON 10 Z<|aE Z (fun u=>?_) (fun u=>?_)
   ·refine Pt 2 Z (O Z (Qy (places:=[(0,6),(6,4)]) (zero:=[T,T,T,T,T,T,.ax,.ax,.ax,.ax]) (cs:=[_,_,_,_,_,_,_,_,_,_]) Z) Z<|vQ 1 Z<|jz aq Z (QH Z Z Z (aq.get 3 Z) (m:=10) Z Z (cells':=[_,_,_,_,_,_,_,_,_,_]) Z) Z (fun U aq=>?_));refine OQ 5 Z ?_;exact br Z Z (aq.get 3 Z) (m:=10) Y Z Z (.inl ⟨er,Z,by rw[hS],her,(aq.pop.pop.pop.pop.pop).weaken C⟩)
   exact absurd u (by rw[her];decide)
  have hS:eG k l r t=(some ⟨r.mem,g2⟩,0):=by rw[hdo];unfold we;rw[show gf r.g (.ofNat (t+1)) (N_.event) ⟨0,0⟩ (0)=(some g2,0) from z]
  replace aq:=aq.keeps;refine P3 aq 4 [6] Z Z<|cC aq (.there (.there (.there (.there .here)))) Z (QH Z Z Z (aq.get 4 Z) (m:=4) Z (ah A.init.leaf.2<|ah A.threads.leaf.2<|ah A.from_.leaf.2<|ah A.order.leaf.2 aC) (cells':=[_,_,_,_,_,_,_,_,_,_]) Z) Z (fun U aq=>?_);refine ON 10 Z<|aE Z (fun u=>?_) (fun u=>?_)
  ·exact absurd u (by decide)
  refine OK 4 Z<|O Z (QC Z (aq.get 4 Z) (n:=10) (vs:=[_,_,_,_,_,_,_,_,_,_]) Z) Z<|jz aq Z (QH Z Z Z (aq.get 3 Z) (m:=10) Z (ah Z<|ah Z<|ah Z<|ah Z<|ah Z<|ah Z<|ah A.init.leaf.2<|ah A.threads.leaf.2<|ah A.from_.leaf.2<|ah A.order.leaf.2 aC) (cells':=[_,_,_,_,_,_,_,_,_,_]) Z) Z (fun U aq=>?_);refine Px 4 Z ?_;exact br Z Z (aq.get 3 Z) (m:=10) Y Z Z (.inr ⟨_,_,_,_,_,_,_,_,_,_,_,_,KP.le_trans C<|KP.bX _ _,hS,Z,A,hm,aq.pop.pop.pop.pop.pop⟩)
 have M:nF N_=N_.event.loc:=by unfold nF;rw[show aX (I N_.ask.kind 0)=false from a6];rfl
 refine Ot aq 9 [0,0,0] Z Z<|ky Z (an Z) (fun Q=>?_) (fun Q=>?_)
 ·refine PZ 2 Z<|ky Z (an Z) (fun aI=>?_) (fun aI=>?_)
  ·refine OO 13 Z (O Z (Qy (places:=[(0,6),(6,4)]) (zero:=[T,T,T,T,T,T,.ax,.ax,.ax,.ax]) (cs:=[_,_,_,_,_,_,_,_,_,_]) Z) Z<|eh aq Z (QH Z Z Z aq.g1 (m:=10) Z Z (cells':=[_,_,_,_,_,_,_,_,_,_]) Z) Z (fun U aq=>?_));refine OQ 5 Z ?_;exact br Z Z aq.g1 (m:=10) Y Z Z (.inl ⟨2,Z,by rw[kM W E (e:=2) (by unfold jP;rw[hnx,<-hN];rw[show aX (I N_.fin 0)=false from am,show aX (bU (.ofNat row.length) 14)=false from ap,show ef N_ r.g=true from by unfold ef;rw[show aX (I N_.event.kind 4)=true from Q,M,aI];rfl];rfl) Z],Z,aq.pop.pop.pop⟩)
  refine P3 aq 4 [6,0,2] Z Z<|O Z (QD hg.init Z Z Z (e:=2) Z) Z<|Pv 5 Z<|aE Z (fun a1=>?_) (fun a1=>?_)
  ·refine Pt 2 Z (O Z (Qy (places:=[(0,6),(6,4)]) (zero:=[T,T,T,T,T,T,.ax,.ax,.ax,.ax]) (cs:=[_,_,_,_,_,_,_,_,_,_]) Z) Z<|eh aq Z (QH Z Z Z aq.g1 (m:=10) Z Z (cells':=[_,_,_,_,_,_,_,_,_,_]) Z) Z (fun U aq=>?_));refine OQ 5 Z ?_;exact br Z Z aq.g1 (m:=10) Y Z Z (.inl ⟨2,Z,by rw[kM W E (e:=2) (by unfold jP;rw[hnx,<-hN];rw[show aX (I N_.fin 0)=false from am,show aX (bU (.ofNat row.length) 14)=false from ap,show ef N_ r.g=true from by unfold ef;rw[show aX (I N_.event.kind 4)=true from Q,M,aI];exact a1];rfl) Z],Z,aq.pop.pop.pop⟩)
  refine OK 4 Z ?_;have X:ef N_ r.g=false:=by unfold ef;rw[show aX (I N_.event.kind 4)=true from Q,M,aI];exact a1
  have h62x:I N_.event.kind 4=false:=bT Q;have aa:jP k xc row r.g=0:=by unfold jP;rw[hnx,<-hN,show aX (I N_.fin 0)=false from am,show aX (bU (.ofNat row.length) 14)=false from ap,X];rfl
  refine O Z (QA 0 Z) Z (O Z (QC Z aq.g0 (n:=5) (vs:=[_,_,_,_,_]) Z) Z (O Z (Qy (places:=[(0,1),(1,1)]) (zero:=[T,T]) (cs:=[_,_]) Z) Z<|kp aq Z (QE (cs:=[T,T,T,T,T])) (fun U b4 aq=>?_)));refine kp aq Z (QE (cs:=[T,T])) (fun U b5 aq=>?_);refine eh aq Z (QH Z Z Z aq.g1 (m:=5) Z Z (cells':=[_,_,_,_,_]) Z) Z (fun U aq=>?_);refine bO aq Z (QH Z Z Z aq.g0 (m:=2) Z Z (cells':=[_,_]) Z) Z (fun U aq=>?_);refine OW aq 12 [0,0,2] Z Z<|aE Z (fun R=>?_) (fun R=>?_)
  ·refine PA aq 3 [6] Z Z<|O Z (QC Z (aq.get 4 Z) (n:=4) (vs:=[_,_,_,_]) Z) Z<|vQ 1 Z ?_;obtain⟨ln,ar,a7⟩:=me (n:=N_) (g:=r.g) X h62x;refine cH Z (aR Z Z (show _=some [V.agg [a,b,c,d],V.int .i64 (.ofNat ln)] from by rw[<-ar,<-M];rfl) Y) (fun _=>Z) (tt hG hg (fun l hl=>by have:=hord l hl;omega) (.ofNat ln) aq) ?_;rintro b6 U ⟨b7,hM85,aq⟩;obtain⟨K1,C,a0,aq⟩:=aq.fy;have hw:=hM85.kq (K:=K1) fun y hy=>a0 _ hy;clear a0;replace hg:=hg.mono C
   refine OW aq 12 [5,0,2] Z Z<|aE Z (fun aY=>?_) (fun aY=>?_)
   ·exact absurd (aY.symm.trans a6) (by decide)
   refine OV aq 7 [0,1] Z Z<|Pv 2 Z<|aE Z (fun ao=>?_) (fun ao=>?_)
   ·refine Pt 3 Z<|O Z (QD hw Z Z Z (e:=67) Z) Z<|PE aq 8 [4,1,0] Z Z<|O Z (tA (n:=6) (e:=2) (m:=1) Y Y Z (show _=some (V.int .i64 (.ofNat ln)) from by rw[<-ar,<-M];rfl) B) Z ?_;obtain⟨z0,z1,z2,z3,z4,z5,bi,bl⟩:=hm.set (a:=a) (b:=b) (c:=c) (d:=d) (show ln<r.mem.length from by rw[hml];exact a7) (N_.event).write;refine cC aq (.there (.there (.there (.there .here)))) Z (aL Z Z Z (aq.get 4 Z) (m:=1) Y Z (by show 0+ln*1+1<=10;omega) Z (cells':=c6 z0 z1 z2 z3 z4 z5 a b c d) bi) Z (fun U aq=>?_);refine OX aq 5 [6] Z Z<|O Z (QC Z (aq.get 4 Z) (n:=4) (vs:=[_,_,_,_]) Z) Z<|vQ 1 Z<|O Z (QC Z aq.g1 (n:=5) (vs:=[_,_,_,_,_]) Z) Z<|O Z (QC Z aq.g0 (n:=2) (vs:=[_,_]) Z) Z<|vQ 1 Z ?_;have hgl1:=hgl0;have F:fz (bI k xc row).1 r.mem r.g=⟨N_.event,⟨0,0⟩,.ofNat (cu r.g (.ofNat ln)).length,r.mem.set ln (N_.event).write⟩:=by rw[<-hN];unfold fz;rw[ar];dsimp only;rw[bT R,show aX (I N_.ask.kind 0)=false from aY];simp only[ct,cf];rw[show aX (I (N_.event).kind 1)=true from ao];rfl
    have hdo:=oq W E aa F;refine cH Z (Qz Z Z Z) (fun _=>Z) (zj hG a4 a5 hg _ _ (N_.event) ⟨0,0⟩ aq) ?_;rintro _ U (⟨er,z,rfl,aq⟩ | ⟨g2,a2,b2,c2,d2,M2,z,rfl,A,aq⟩)
    ·have hS:eG k l r t=(none,er):=by rw[hdo];unfold we;rw[show gf r.g (.ofNat (t+1)) (N_.event) ⟨0,0⟩ (.ofNat (cu r.g (.ofNat ln)).length)=(none,er) from z]
     have her:=nQ z;refine P3 aq 4 [6] Z Z<|cC aq (.there (.there (.there (.there .here)))) Z (QH Z Z Z (aq.get 4 Z) (m:=4) Z Z (cells':=[_,_,_,_,_,_,_,_,_,_]) Z) Z (fun U aq=>?_);refine ON 10 Z<|aE Z (fun u=>?_) (fun u=>?_)
     ·refine Pt 2 Z (O Z (Qy (places:=[(0,6),(6,4)]) (zero:=[T,T,T,T,T,T,.ax,.ax,.ax,.ax]) (cs:=[_,_,_,_,_,_,_,_,_,_]) Z) Z<|vQ 1 Z<|jz aq Z (QH Z Z Z (aq.get 3 Z) (m:=10) Z Z (cells':=[_,_,_,_,_,_,_,_,_,_]) Z) Z (fun U aq=>?_));refine OQ 5 Z ?_;exact br Z Z (aq.get 3 Z) (m:=10) Y Z Z (.inl ⟨er,Z,by rw[hS],her,(aq.pop.pop.pop.pop.pop).weaken C⟩)
     exact absurd u (by rw[her];decide)
    have hS:eG k l r t=(some ⟨r.mem.set ln (N_.event).write,g2⟩,0):=by rw[hdo];unfold we;rw[show gf r.g (.ofNat (t+1)) (N_.event) ⟨0,0⟩ (.ofNat (cu r.g (.ofNat ln)).length)=(some g2,0) from z]
    replace aq:=aq.keeps;refine P3 aq 4 [6] Z Z<|cC aq (.there (.there (.there (.there .here)))) Z (QH Z Z Z (aq.get 4 Z) (m:=4) Z (ah A.init.leaf.2<|ah A.threads.leaf.2<|ah A.from_.leaf.2<|ah A.order.leaf.2 aC) (cells':=[_,_,_,_,_,_,_,_,_,_]) Z) Z (fun U aq=>?_);refine ON 10 Z<|aE Z (fun u=>?_) (fun u=>?_)
    ·exact absurd u (by decide)
    refine OK 4 Z<|O Z (QC Z (aq.get 4 Z) (n:=10) (vs:=[_,_,_,_,_,_,_,_,_,_]) Z) Z<|jz aq Z (QH Z Z Z (aq.get 3 Z) (m:=10) Z (ah Z<|ah Z<|ah Z<|ah Z<|ah Z<|ah Z<|ah A.init.leaf.2<|ah A.threads.leaf.2<|ah A.from_.leaf.2<|ah A.order.leaf.2 aC) (cells':=[_,_,_,_,_,_,_,_,_,_]) Z) Z (fun U aq=>?_);refine Px 4 Z ?_;exact br Z Z (aq.get 3 Z) (m:=10) Y Z Z (.inr ⟨_,_,_,_,_,_,_,_,_,_,_,_,KP.le_trans C<|KP.bX _ _,hS,Z,A,bl,aq.pop.pop.pop.pop.pop⟩)
   refine OV aq 5 [6] Z Z<|O Z (QC Z (aq.get 4 Z) (n:=4) (vs:=[_,_,_,_]) Z) Z<|vQ 1 Z<|O Z (QC Z aq.g1 (n:=5) (vs:=[_,_,_,_,_]) Z) Z<|O Z (QC Z aq.g0 (n:=2) (vs:=[_,_]) Z) Z<|vQ 1 Z ?_;have hgl1:=hgl0;have F:fz (bI k xc row).1 r.mem r.g=⟨N_.event,⟨0,0⟩,0,r.mem⟩:=by rw[<-hN];unfold fz;rw[ar];dsimp only;rw[bT R,show aX (I N_.ask.kind 0)=false from aY];simp only[ct,cf];rw[show aX (I (N_.event).kind 1)=false from ao];rfl
   have hdo:=oq W E aa F;refine cH Z (Qz Z Z Z) (fun _=>Z) (zj hG a4 a5 hg _ _ (N_.event) ⟨0,0⟩ aq) ?_;rintro _ U (⟨er,z,rfl,aq⟩ | ⟨g2,a2,b2,c2,d2,M2,z,rfl,A,aq⟩)
   ·have hS:eG k l r t=(none,er):=by rw[hdo];unfold we;rw[show gf r.g (.ofNat (t+1)) (N_.event) ⟨0,0⟩ (0)=(none,er) from z]
    have her:=nQ z;refine P3 aq 4 [6] Z Z<|cC aq (.there (.there (.there (.there .here)))) Z (QH Z Z Z (aq.get 4 Z) (m:=4) Z Z (cells':=[_,_,_,_,_,_,_,_,_,_]) Z) Z (fun U aq=>?_);refine ON 10 Z<|aE Z (fun u=>?_) (fun u=>?_)
    ·refine Pt 2 Z (O Z (Qy (places:=[(0,6),(6,4)]) (zero:=[T,T,T,T,T,T,.ax,.ax,.ax,.ax]) (cs:=[_,_,_,_,_,_,_,_,_,_]) Z) Z<|vQ 1 Z<|jz aq Z (QH Z Z Z (aq.get 3 Z) (m:=10) Z Z (cells':=[_,_,_,_,_,_,_,_,_,_]) Z) Z (fun U aq=>?_));refine OQ 5 Z ?_;exact br Z Z (aq.get 3 Z) (m:=10) Y Z Z (.inl ⟨er,Z,by rw[hS],her,(aq.pop.pop.pop.pop.pop).weaken C⟩)
    exact absurd u (by rw[her];decide)
   have hS:eG k l r t=(some ⟨r.mem,g2⟩,0):=by rw[hdo];unfold we;rw[show gf r.g (.ofNat (t+1)) (N_.event) ⟨0,0⟩ (0)=(some g2,0) from z]
   replace aq:=aq.keeps;refine P3 aq 4 [6] Z Z<|cC aq (.there (.there (.there (.there .here)))) Z (QH Z Z Z (aq.get 4 Z) (m:=4) Z (ah A.init.leaf.2<|ah A.threads.leaf.2<|ah A.from_.leaf.2<|ah A.order.leaf.2 aC) (cells':=[_,_,_,_,_,_,_,_,_,_]) Z) Z (fun U aq=>?_);refine ON 10 Z<|aE Z (fun u=>?_) (fun u=>?_)
   ·exact absurd u (by decide)
   refine OK 4 Z<|O Z (QC Z (aq.get 4 Z) (n:=10) (vs:=[_,_,_,_,_,_,_,_,_,_]) Z) Z<|jz aq Z (QH Z Z Z (aq.get 3 Z) (m:=10) Z (ah Z<|ah Z<|ah Z<|ah Z<|ah Z<|ah Z<|ah A.init.leaf.2<|ah A.threads.leaf.2<|ah A.from_.leaf.2<|ah A.order.leaf.2 aC) (cells':=[_,_,_,_,_,_,_,_,_,_]) Z) Z (fun U aq=>?_);refine Px 4 Z ?_;exact br Z Z (aq.get 3 Z) (m:=10) Y Z Z (.inr ⟨_,_,_,_,_,_,_,_,_,_,_,_,KP.le_trans C<|KP.bX _ _,hS,Z,A,hm,aq.pop.pop.pop.pop.pop⟩)
  exact absurd (R.symm.trans Q) (by decide)
 refine Oo 18 Z ?_;have X:ef N_ r.g=false:=by unfold ef;rw[show aX (I N_.event.kind 4)=false from Q];rfl
 have aa:jP k xc row r.g=0:=by unfold jP;rw[hnx,<-hN,show aX (I N_.fin 0)=false from am,show aX (bU (.ofNat row.length) 14)=false from ap,X];rfl
 refine O Z (QA 0 Z) Z (O Z (QC Z aq.g0 (n:=5) (vs:=[_,_,_,_,_]) Z) Z (O Z (Qy (places:=[(0,1),(1,1)]) (zero:=[T,T]) (cs:=[_,_]) Z) Z<|kp aq Z (QE (cs:=[T,T,T,T,T])) (fun U b4 aq=>?_)));refine kp aq Z (QE (cs:=[T,T])) (fun U b5 aq=>?_);refine eh aq Z (QH Z Z Z aq.g1 (m:=5) Z Z (cells':=[_,_,_,_,_]) Z) Z (fun U aq=>?_);refine bO aq Z (QH Z Z Z aq.g0 (m:=2) Z Z (cells':=[_,_]) Z) Z (fun U aq=>?_);refine OW aq 12 [0,0,2] Z Z<|aE Z (fun R=>?_) (fun R=>?_)
 ·exact absurd (R.symm.trans Q) (by decide)
 refine OV aq 5 [6] Z Z<|O Z (QC Z (aq.get 4 Z) (n:=4) (vs:=[_,_,_,_]) Z) Z<|vQ 1 Z<|O Z (QC Z aq.g1 (n:=5) (vs:=[_,_,_,_,_]) Z) Z<|O Z (QC Z aq.g0 (n:=2) (vs:=[_,_]) Z) Z<|vQ 1 Z ?_;have hgl1:=hgl0;have F:fz (bI k xc row).1 r.mem r.g=⟨N_.event,⟨0,0⟩,0,r.mem⟩:=by rw[<-hN];exact nj<|bj R
 have hdo:=oq W E aa F;refine cH Z (Qz Z Z Z) (fun _=>Z) (zj hG a4 a5 hg _ _ (N_.event) ⟨0,0⟩ aq) ?_;rintro _ U (⟨er,z,rfl,aq⟩ | ⟨g2,a2,b2,c2,d2,M2,z,rfl,A,aq⟩)
 ·have hS:eG k l r t=(none,er):=by rw[hdo];unfold we;rw[show gf r.g (.ofNat (t+1)) (N_.event) ⟨0,0⟩ (0)=(none,er) from z]
  have her:=nQ z;refine P3 aq 4 [6] Z Z<|cC aq (.there (.there (.there (.there .here)))) Z (QH Z Z Z (aq.get 4 Z) (m:=4) Z Z (cells':=[_,_,_,_,_,_,_,_,_,_]) Z) Z (fun U aq=>?_);refine ON 10 Z<|aE Z (fun u=>?_) (fun u=>?_)
  ·refine Pt 2 Z (O Z (Qy (places:=[(0,6),(6,4)]) (zero:=[T,T,T,T,T,T,.ax,.ax,.ax,.ax]) (cs:=[_,_,_,_,_,_,_,_,_,_]) Z) Z<|vQ 1 Z<|jz aq Z (QH Z Z Z (aq.get 3 Z) (m:=10) Z Z (cells':=[_,_,_,_,_,_,_,_,_,_]) Z) Z (fun U aq=>?_));refine OQ 5 Z ?_;exact br Z Z (aq.get 3 Z) (m:=10) Y Z Z (.inl ⟨er,Z,by rw[hS],her,(aq.pop.pop.pop.pop.pop).weaken C⟩)
  exact absurd u (by rw[her];decide)
 have hS:eG k l r t=(some ⟨r.mem,g2⟩,0):=by rw[hdo];unfold we;rw[show gf r.g (.ofNat (t+1)) (N_.event) ⟨0,0⟩ (0)=(some g2,0) from z]
 replace aq:=aq.keeps;refine P3 aq 4 [6] Z Z<|cC aq (.there (.there (.there (.there .here)))) Z (QH Z Z Z (aq.get 4 Z) (m:=4) Z (ah A.init.leaf.2<|ah A.threads.leaf.2<|ah A.from_.leaf.2<|ah A.order.leaf.2 aC) (cells':=[_,_,_,_,_,_,_,_,_,_]) Z) Z (fun U aq=>?_);refine ON 10 Z<|aE Z (fun u=>?_) (fun u=>?_)
 ·exact absurd u (by decide)
 refine OK 4 Z<|O Z (QC Z (aq.get 4 Z) (n:=10) (vs:=[_,_,_,_,_,_,_,_,_,_]) Z) Z<|jz aq Z (QH Z Z Z (aq.get 3 Z) (m:=10) Z (ah Z<|ah Z<|ah Z<|ah Z<|ah Z<|ah Z<|ah A.init.leaf.2<|ah A.threads.leaf.2<|ah A.from_.leaf.2<|ah A.order.leaf.2 aC) (cells':=[_,_,_,_,_,_,_,_,_,_]) Z) Z (fun U aq=>?_);refine Px 4 Z ?_;exact br Z Z (aq.get 3 Z) (m:=10) Y Z Z (.inr ⟨_,_,_,_,_,_,_,_,_,_,_,_,KP.le_trans C<|KP.bX _ _,hS,Z,A,hm,aq.pop.pop.pop.pop.pop⟩)
theorem ID {K:KP} {m:List Int} {u z A C E F:Int} (hm:vf m u z A C E F) {a b c d:V} {bb e:Nat} {ro:Bool} (hb:K bb (.row (c6 u z A C E F a b c d) e ro)):bR K 1 dy m (.slice bb 0 m.length (.known 6)):=by
 have h6:=hm.le;refine .inr ⟨bb,0,_,_,e,ro,Z,.inr ⟨_,Z,h6⟩,hb,by show 0+m.length*1<=10;omega,by omega,fun i x hx=>?_⟩;have hi:=(gA.1 hx).1;obtain⟨y,hy,hn⟩:=hm.at_ (a:=a) (b:=b) (c:=c) (d:=d) hi;rw[hx] at hy;cases hy;rw[eF] at hn;rw[cR hn];rfl
theorem HS {P:Program} {U:D} {K:KP} {L:Own} {bb e:Nat} {a b c d:V} (aq:J U K ((bb,.row (c6 0 0 0 0 0 0 a b c d) e false)::L)) {init:List Int} {vi:V} (hi:bR K 1 dy init vi) (R:init.length<=6) {ts:Array TypeId} {t ty:TypeId} (W:ts[0]?=some t) (hu:P.underlying t=some (.slice ty)) (hj:(P.info? ty).map (·.size)=some 1):
  ∃(U':D) (v:V) (E F G M Q y5:Int),rE P U ts (.slice bb 0 6 (.known 6)) vi= .val v U'/\J U' K ((bb,.row (c6 E F G M Q y5 a b c d) e false)::L)/\vf init E F G M Q y5:=by
 obtain⟨j,A,C⟩:=oM_.1 hj;obtain⟨news,X,s2,s3,s4⟩:=om aq hi dy.leaf
 have u:news=init.map gZ:=by
  refine List.ext_getElem? fun i=>?_
  rw[gM_];cases hx:init[i]? with
  | none=>
   show news[i]?=none;rw[List.getElem?_eq_none_iff] at hx⊢;rw[s2];omega
  | some x=>
   have:=s4 i x hx;rw[Nat.mul_one] at this;have z:i<news.length:=by have:=(gA.1 hx).1;omega
   rw[List.drop_eq_getElem_cons z] at this;have h1: [news[i]]= [V.int .i64 x]:=this;rw[gC z];exact congrArg some (List.cons.inj h1).1
 subst u;have hb:=aq.get 0 Z;unfold rE;rw[W];dsimp only;rw[hu];dsimp only;rw[A];dsimp only;rw[C,X];dsimp only
 match init,R with
 | [],_=>exact⟨U,_,0,0,0,0,0,0,Z,aq,Z⟩
 | [q0],_=>simp only[hb];exact⟨_,_,q0,0,0,0,0,0,Z,aq.pf _,Z⟩
 | [q0,q1],_=>simp only[hb];exact⟨_,_,q0,q1,0,0,0,0,Z,aq.pf _,Z⟩
 | [q0,q1,q2],_=>simp only[hb];exact⟨_,_,q0,q1,q2,0,0,0,Z,aq.pf _,Z⟩
 | [q0,q1,q2,q3],_=>simp only[hb];exact⟨_,_,q0,q1,q2,q3,0,0,Z,aq.pf _,Z⟩
 | [q0,q1,q2,q3,q4],_=>simp only[hb];exact⟨_,_,q0,q1,q2,q3,q4,0,Z,aq.pf _,Z⟩
 | [q0,q1,q2,q3,q4,q5],_=>simp only[hb];exact⟨_,_,q0,q1,q2,q3,q4,q5,Z,aq.pf _,Z⟩
theorem J0 {P:Program} {G:Cx} {ev:Operand->Option V} {U:D} {cl:Call} {so xo:Operand} {s x:V} {r:HR} (hc:cl.callee= .builtin .copy) (u:cl.args.toList= [so,xo]) (h1:ev so=some s) (h2:ev xo=some x) (h:rE P U cl.argTypes s x=r):dW P G ev U (.call cl)=r:=by
 refine kZ (by simp[kindOf,hc]) ?_
 have he:tN ev [so,xo]=some [s,x]:=by
  unfold tN cW;simp only[h1,h2]
 simp only[gz,hc,u,he,h]
theorem L1 {g:XG} (h:cd g=0):Mj g:=by
 obtain⟨b1,b2,u,z,b5,A,b7⟩:=cK h;exact⟨by omega,by omega,fun l hl=>by have:=u l hl;omega,by omega,fun l hl=>by have:=mS A z u l hl;omega,by omega,fun l hl=>by have:=j0 h l hl;omega⟩
theorem Nu {G:Cx} (W:Plain G) {K:KP} {g:XG} {a b c d:V} (C:cd g=0) (X:eN K g a b c d) {U:D} {L:Own} (aq:J U K L):bk Tryz.prog G 93 [.agg [a,b,c,d]] U fun v U'=>∃A a' b' c' d',v= .agg [a',b',c',d']/\KP.le K A/\eN A g a' b' c' d'/\J U' A L:=by
 refine PS W Tryz.func93 Z<|Pt 2 Z<|kp aq Z (cz Z Z) (fun U b1 aq=>?_);refine kp aq Z (QE (cs:=[.ax,.ax,.ax,.ax])) (fun U b2 aq=>?_);refine OO 4 Z<|O Z (QC Z aq.g1 (n:=4) (vs:=[_,_,_,_]) Z) Z<|cH Z (Qz Z Z Z) (fun _=>Z) (xO W X (L1 C) aq) ?_;rintro _ U ⟨u1,M1,q2,E,M2,q3,F,M3,q4,Q,M4,rfl,R,aq⟩;have hfew:=L1 C;obtain⟨A,hle,u,aq⟩:=J.fy (U:=U) (K:=K) (L:=_::_::L) (M:=M4++(q4,.row Q 74 false)::(M3++(q3,.row F 74 false)::(M2++(q2,.row E 57 false)::M1))) (by simpa only[lQ_,List.cons_append] using aq);have z:eN A g u1 (.slice q2 0 g.threads.length (.known g.threads.length)) (.slice q3 0 g.from_.length (.known g.from_.length)) (.slice q4 0 g.order.length (.known g.order.length)):=pZ (T1:=57) (T2:=74) (T3:=74) R.init R.threads R.from_ R.order (fun e he=>u e (by simp[he])) (fun e he=>u e (by simp[he])) (fun e he=>u e (by simp[he])) (fun e he=>u e (by simp[he])) (u (q2,.row E 57 false) (by simp)) (u (q3,.row F 74 false) (by simp)) (u (q4,.row Q 74 false) (by simp)) Z Z Z (by have:=hfew.2.1;omega) (by have:=hfew.2.2.2.1;omega) (by have:=hfew.2.2.2.2.2.1;omega);clear u;refine bO aq Z (QH Z Z Z aq.g0 (m:=4) Z (ah z.init.leaf.2<|ah z.threads.leaf.2<|ah z.from_.leaf.2<|ah z.order.leaf.2 aC) (cells':=[_,_,_,_]) Z) Z (fun U aq=>?_);refine Px 3 Z ?_;exact eL Z Z aq.g0 (m:=4) Y Z ⟨A,_,_,_,_,Z,hle,z,aq.pop.pop⟩
theorem Hm {P:Program} {ev:Operand->Option V} {t e n h bb:Nat} {x hi:Operand} {k:IntKind} (z:P.underlying t=some (.array n e)) (hj:(P.info? e).map (·.size)=some 1) (hx:ev x=some (.ptr bb 0)) (A:ev hi=some (.int k (.ofNat h))) (hl:h<=n):di P ev (.slice t x none (some hi) none)=some (.slice bb 0 h (.known n)):=by
 obtain⟨j,u,aa⟩:=oM_.1 hj;have hb:da ev n n none (some hi)=some (0,h):=oH A hl;simp only[di,fo,z,hx,cutAt,hb,cut,u];cases Nat.beq n 0<;>simp
theorem Er {P:Program} {ev:Operand->Option V} {t e n bb:Nat} {x:Operand} (z:P.underlying t=some (.array n e)) (hj:(P.info? e).map (·.size)=some 1) (hx:ev x=some (.ptr bb 0)):di P ev (.slice t x none none none)=some (.slice bb 0 n (.known n)):=by
 obtain⟨j,u,aa⟩:=oM_.1 hj;have hb:da ev n n none none=some (0,n):=rfl;simp only[di,fo,z,hx,cutAt,hb,cut,u];cases Nat.beq n 0<;>simp
theorem NG {G:Cx} (Q:Plain G) {K:KP} {r:XM} (R:cd r.g=0) (W:r.mem.length=r.g.init.length) {a b c d:V} (hg:eN K r.g a b c d) {x0 x1 x2 x3 x4 x5:Int} (hm:vf r.mem x0 x1 x2 x3 x4 x5) {U:D} {L:Own} (aq:J U K L):
  bk Tryz.prog G 55 [.agg [.int .i64 x0,.int .i64 x1,.int .i64 x2,.int .i64 x3,.int .i64 x4,.int .i64 x5,a,b,c,d]] U fun v U'=>∃F mv a' b' c' d',v= .agg [mv,a',b',c',d']/\KP.le K F/\bR F 1 dy r.mem mv/\eN F r.g a' b' c' d'/\J U' F L:=by
 have h6:=hm.le;refine PS Q Tryz.func55 Z<|Pt 2 Z<|kp aq Z (cz Z Z) (fun U b1 aq=>?_);obtain⟨K0,E,u,aq⟩:=aq.fy (M:=[_]);have hb:=u _ (.head _);clear u;dsimp only at hb;replace hg:=hg.mono E;refine kp aq Z (QE (cs:=[.ax,.ax,.ax,.ax,.ax])) (fun U b2 aq=>?_);refine ON 3 Z (aS (l:=[(0,[]),(1,[]),(2,[]),(3,[]),(4,[]),(5,[]),(7,[]),(8,[]),(6,[8]),(9,[]),(10,[]),(11,[])]) Y Y<|P4 aq 3 [0,6,0] Z Z<|al Z Z (QB Z (aq.fq hb) Z) Z<|al Z Z (QD hg.init Z Z Z (e:=2) Z) Z ?_);refine al Z Z (bn (v:=.slice b1 0 r.mem.length (.known 6)) Z<|Hm (e:=2) (n:=6) Y Y Z (show _=some (V.int .i64 (.ofNat r.mem.length)) from by rw[W];rfl) h6) Z ?_;refine al Z Z (QA 6 Z) Z<|al Z Z (QC Z (aq.fq hb) (n:=4) (vs:=[_,_,_,_]) Z) Z<|jg Z Z (Qz Z Z Z) (fun _=>Z) (zk Q (ID hm hb) B aq) ?_;rintro mv U ⟨MM,X,aq⟩;obtain⟨K2,A,u,aq⟩:=aq.fy;have hmv:=X.kq (K:=K2) fun y hy=>u _ hy;clear u;replace hb:=A _ _ hb;replace hg:=hg.mono A
 refine⟨(bB (bN Z Z Z Z Z (QC Z (aq.fq hb) (n:=4) (vs:=[_,_,_,_]) Z)<|gH<|bS hg.init.fD<|bS hg.threads.fD<|bS hg.from_.fD<|bS hg.order.fD fx) aV),?_⟩;refine jg Z Z (Qz Z Z Z) (fun _=>Z) (Nu Q R hg aq) ?_;rintro _ U ⟨F,a2,b2_,c2,d2,rfl,z,C,aq⟩;replace hb:=z _ _ hb;replace hg:=hg.mono z;replace hmv:=hmv.mono z fun _ _ h=>h
 refine⟨aV,?_⟩;refine al Z Z (bF (places:=[(0,1),(1,4)]) (zero:=[.ax,.ax,.ax,.ax,.ax]) (cs:=[_,_,_,_,_]) Y Y Y (bD Z Z hmv.leaf.1 Z<|bD Z Z Z Z bJ) Y) Z<|kb aq Z Z (QH Z Z Z aq.g0 (m:=5) Z (ah hmv.leaf.2<|ah C.init.leaf.2<|ah C.threads.leaf.2<|ah C.from_.leaf.2<|ah C.order.leaf.2 aC) (cells':=[_,_,_,_,_]) Z) Z (fun U aq=>?_);refine⟨aV,?_⟩;refine Pz 3 Z ?_;exact eL Z Z aq.g0 (m:=5) Y Z ⟨F,_,_,_,_,_,Z,KP.le_trans E<|KP.le_trans A z,hmv,C,aq.pop⟩
theorem Av {α:Type} {o:Option α} {d:α} (h:(!o.isSome)=false):o=some (o.getD d):=by
 cases o with
 | none=>cases h
 | some x=>rfl
theorem CA {α:Type} {o:Option α} (h:(!o.isSome)=false):o.isSome=true:=by
 cases o with
 | none=>cases h
 | some x=>rfl
theorem Ld {α:Type} {o:Option α} (h:(!o.isSome)=true):o=none:=by
 cases o with
 | none=>rfl
 | some x=>cases h
theorem Iu {k:Nat} {l:List XC} {g:XG} (h:(fl k l g).isSome=true):cd g=0:=by
 unfold fl at h;cases h1:aX (I (cd g) 0) with
 | true=>rw[h1] at h;cases h
 | false=>exact eqv (bj h1)
theorem F2 {G:Cx} (hG:Plain G) {K:KP} (ao:rh G K) {k:Nat} {l:List XC} {lv:V} (hl:bR K 2 (mY K k) l lv) {m:List Int} {mv:V} (E:bR K 1 dy m mv) {g:XG} {a b c d:V} (hg:eN K g a b c d) {U:D} {L:Own} (aq:J U K L):
  bk Tryz.prog G 59 [lv,.agg [mv,a,b,c,d]] U fun v U'=>∃u M,v= .tuple [u,.bool (jm k l m g).isSome]/\cQ 1 3 dy ((jm k l m g).getD []) u M/\J U' K (M++L):=by
 refine PS hG Tryz.func59 Z<|Pt 2 Z<|kp aq Z (cz Z Z) (fun U b1 aq=>?_);refine OX aq 8 [1] Z Z<|O Z (QC Z aq.g0 (n:=4) (vs:=[_,_,_,_]) Z) Z<|cH Z (Qz Z Z Z) (fun _=>Z) (Nv hG ao hl hg aq) ?_;rintro _ U ⟨a1,X,rfl,hO,aq⟩;refine On 11 Z<|O Z (cV Z) Z<|ky Z (an Z) (fun z=>?_) (fun z=>?_)
 ·refine OQ 20 Z ?_;have A:jm k l m g=none:=by unfold jm;rw[Ld z]
  exact bV Z Z Z ⟨.ax,[],by rw[A];rfl,by rw[A];exact .inl ⟨Z,Z,Z⟩,aq.aQ.pop⟩
 refine O Z (QA 0 Z) Z<|O Z (QB Z aq.aQ.g0 Z) Z<|O Z (QD E Z Z Z (e:=2) Z) Z<|P3 aq 2 [1,0] Z Z<|O Z (QB Z aq.aQ.g0 Z) Z<|O Z (QD hg.init Z Z Z (e:=2) Z) Z<|Pv 4 Z<|aE Z (fun F=>?_) (fun F=>?_)
 ·refine Pu 8 Z ?_;have hsg:=Av (d:=[]) z;have A:jm k l m g=none:=by unfold jm;rw[hsg];dsimp only;rw[show aX (I (.ofNat m.length) (.ofNat g.init.length))=true from F];rfl
  exact bV Z Z Z ⟨.ax,[],by rw[A];rfl,by rw[A];exact .inl ⟨Z,Z,Z⟩,aq.aQ.pop⟩
 refine Ol 5 Z ?_;have hck:=Iu (CA z);have ap:∀r∈g.order,r.length<=1000000:=fun r hr=>by have:=j0 hck r hr;omega
 refine O Z (QA 0 Z) Z (O Z (QB Z aq.aQ.g0 Z) Z (O Z (QD E Z Z Z (e:=2) Z) Z (OM 4 Z (bp ([4,5,8,9]++rg 32 12) (fun j t U=>∃(i:Nat),j+i=m.length/\lL g m 0=lL g (m.drop i) i/\t.get 32=some (.int .i64 (.ofNat i))/\J U K (X++(b1,.row [mv,a,b,c,d] 44 false)::L)) (m.length) ⟨0,Z,Z,Z,aq⟩ ?_))));clear aq;intro j5 t U ar hI;obtain⟨i,a2,Q,aa,aq⟩:=hI;obtain⟨oo,rfl⟩:=ar.q1 aa Z;refine Pt 2 Z<|ky Z (az Z Z Z) (fun R=>?_) (fun R=>?_)
 ·refine Om 8 Z<|Pt 3 Z ?_;obtain⟨ab,C,aI⟩:=cL R;refine Qu (e:=2) (m:=1) E C Z Z Z Z (fun a3 aY ac a0 am=>?_);obtain rfl:=am;refine O Z (QF aq ac Z Z) Z<|OX aq 8 [1] Z Z<|O Z (QC Z aq.aQ.g0 (n:=4) (vs:=[_,_,_,_]) Z) Z<|vQ 1 Z<|bf Z (Qz Z Z Z) (fun _=>Z) (NA hG hg ap _ aq) (fun U aq=>?_);refine Pv 3 Z<|aE Z (fun W=>?_) (fun W=>?_)
  ·refine PX 7 Z<|aF<|aw<|bz<|aF<|aw (?_);have hsg:=Av (d:=[]) z;have A:jm k l m g=none:=by unfold jm;rw[hsg];dsimp only;rw[show aX (I (.ofNat m.length) (.ofNat g.init.length))=false from F,cf,Q,cR C];unfold lL;rw[show aX (I ab<|jq g (.ofNat i))=true from W];rfl
   exact bV Z Z Z ⟨.ax,[],by rw[A];rfl,by rw[A];exact .inl ⟨Z,Z,Z⟩,aq.aQ.pop⟩
  refine aG<|aJ<|PW 4 Z<|aO ⟨j5-1,by omega,oF,i+1,by omega,(by rw[Q,cR C];show(bif _ then _ else _)=_;rw[show aX (I ab<|jq g (.ofNat i))=false from W];rfl),cI<|bg (by have:=E.bG;omega),aq⟩
 refine ON 4 Z<|OL 3 Z<|aT<|PX 8 Z ?_;have hsg:=Av (d:=[]) z;have A:jm k l m g=fl k l g:=by rw[hsg];unfold jm;rw[hsg];dsimp only;rw[show aX (I (.ofNat m.length) (.ofNat g.init.length))=false from F,cf,Q,List.drop_eq_nil_iff.2<|bC R];rfl
 exact bV Z Z Z ⟨_,X,by rw[A,CA z],by rw[A];exact hO,aq.sub<|dH (.cons _ (.refl _))⟩
theorem Nz {G:Cx} (A:Plain G) {K:KP} (u:rh G K) {k:Nat} {l:List XC} {lv:V} (hl:bR K 2 (mY K k) l lv) {m:List Int} {mv:V} (z:bR K 1 dy m mv) {g:XG} {a b c d:V} (C:eN K g a b c d) {U:D} {L:Own} (aq:J U K L):
  bk Tryz.prog G 23 [lv,.agg [mv,a,b,c,d]] U fun v U'=>v= .bool (yc k l m g)/\J U' K L:=by
 refine PS A Tryz.func23 Z<|Pt 2 Z<|kp aq Z (cz Z Z) (fun U b1 aq=>?_);refine OO 6 Z<|O Z (QC Z aq.g0 (n:=5) (vs:=[_,_,_,_,_]) Z) Z<|cH Z (Qz Z Z Z) (fun _=>Z) (F2 A u hl z C aq) ?_;rintro _ U ⟨aa,ab,rfl,hO,aq⟩;refine Px 14 Z ?_;exact aA Z Z ⟨Z,aq.aQ.pop⟩
theorem LH {G:Cx} (hG:Plain G) (ao:G.fk 70=true) (ap:G.ov 106=true) {K:KP} (X:rh G K) {k:Nat} {l:List XC} {lv:V} (hl:bR K 2 (mY K k) l lv) {r:XM} {mv:V} (aa:bR K 1 dy r.mem mv) {a b c d:V} (W:eN K r.g a b c d) (p:Int) {U:D} {L:Own} (aq:J U K L):
  bk Tryz.prog G 20 [lv,.agg [mv,a,b,c,d],.int .i64 p] U fun v U'=>(∃e,v= .tuple [.agg [.ax,.ax,.ax,.ax,.ax],.int .i64 e]/\I e 0=false/\mX k l r p=(none,e)/\J U' K L)∨
   ∃K1 r' m' a' b' c' d',v= .tuple [.agg [m',a',b',c',d'],T]/\mX k l r p=(some r',0)/\KP.le K K1/\bR K1 1 dy r'.mem m'/\eN K1 r'.g a' b' c' d'/\J U' K1 L:=by
 refine PS hG Tryz.func20 Z<|Pt 2 Z<|kp aq Z (cz Z Z) (fun U b1 aq=>?_);refine kp aq Z (QE (cs:=[.ax,.ax,.ax,.ax,.ax])) (fun U b2 aq=>?_);refine On 7 Z<|O Z (QC Z aq.g1 (n:=5) (vs:=[_,_,_,_,_]) Z) Z<|bf Z (Qz Z Z Z) (fun _=>Z) (Nz hG X hl aa W aq) (fun U aq=>?_);refine O Z (cV Z) Z<|ky Z (an Z) (fun z=>?_) (fun z=>?_)
 ·refine OO 14 Z (O Z (Qy (places:=[(0,1),(1,4)]) (zero:=[.ax,.ax,.ax,.ax,.ax]) (cs:=[_,_,_,_,_]) Z) Z<|bO aq Z (QH Z Z Z aq.g0 (m:=5) Z Z (cells':=[_,_,_,_,_]) Z) Z (fun U aq=>?_));refine OQ 5 Z ?_;exact br Z Z aq.g0 (m:=5) Y Z Z (.inl ⟨2,Z,Z,by unfold mX;rw[kA z];rfl,aq.pop.pop⟩)
 refine PZ 3 Z<|ky Z (an Z) (fun u=>?_) (fun u=>?_)
 ·refine OO 10 Z (O Z (Qy (places:=[(0,1),(1,4)]) (zero:=[.ax,.ax,.ax,.ax,.ax]) (cs:=[_,_,_,_,_]) Z) Z<|bO aq Z (QH Z Z Z aq.g0 (m:=5) Z Z (cells':=[_,_,_,_,_]) Z) Z (fun U aq=>?_));refine OQ 5 Z ?_;exact br Z Z aq.g0 (m:=5) Y Z Z (.inl ⟨2,Z,Z,by unfold mX;rw[eV z,u];rfl,aq.pop.pop⟩)
 refine PZ 2 Z<|O Z (QD hl Z Z Z (e:=33) Z) Z<|Pv 4 Z<|aE Z (fun A=>?_) (fun A=>?_)
 ·refine Pt 2 Z (O Z (Qy (places:=[(0,1),(1,4)]) (zero:=[.ax,.ax,.ax,.ax,.ax]) (cs:=[_,_,_,_,_]) Z) Z<|bO aq Z (QH Z Z Z aq.g0 (m:=5) Z Z (cells':=[_,_,_,_,_]) Z) Z (fun U aq=>?_));refine OQ 5 Z ?_;exact br Z Z aq.g0 (m:=5) Y Z Z (.inl ⟨2,Z,Z,by unfold mX;rw[eV z,u,A];rfl,aq.pop.pop⟩)
 refine OV aq 5 [1] Z Z (O Z (QC Z aq.g1 (n:=4) (vs:=[_,_,_,_]) Z) Z (O Z (Qy (places:=[(0,6),(6,4)]) (zero:=[T,T,T,T,T,T,.ax,.ax,.ax,.ax]) (cs:=[_,_,_,_,_,_,_,_,_,_]) Z) Z<|kp aq Z (QE (cs:=[T,T,T,T,T,T,.ax,.ax,.ax,.ax])) (fun U b3 aq=>?_)));refine bO aq Z (QH Z Z Z aq.g0 (m:=10) Z (ah Z<|ah Z<|ah Z<|ah Z<|ah Z<|ah Z<|ah W.init.leaf.2<|ah W.threads.leaf.2<|ah W.from_.leaf.2<|ah W.order.leaf.2 aC) (cells':=[_,_,_,_,_,_,_,_,_,_]) Z) Z (fun U aq=>?_);refine ON 3 Z<|aS (l:=zp [0,1,2,3,4]) Y Y<|al Z Z (QA 0 Z) Z ?_;refine al Z Z (bn (v:=.slice b3 0 6 (.known 6)) Z<|Er (e:=2) (n:=6) Y Y Z) Z ?_;refine P4 aq 2 [0,2] Z Z ?_;have C:yc k l r.mem r.g=true:=eV z;have hinv:tC k l r:=Fk C;have hck:=hinv.Gi;obtain⟨b1_,b2_,b3_,_⟩:=cK hck;have ar:r.mem.length<=6:=by rw[hinv.mem];exact b2_
 obtain⟨U,a1,x0,x1,x2,x3,x4,x5,aI,aq,hm⟩:=HS (P:=Tryz.prog) (ts:= #[22,22]) (t:=22) (ty:=2) aq aa ar Z Y Y;refine al Z Z (J0 Z Z Z Z aI) Z<|OS 3 Z<|ai Z<|O Z (QC Z aq.g0 (n:=10) (vs:=[_,_,_,_,_,_,_,_,_,_]) Z) Z<|PZ 2 Z ?_;obtain⟨tp,rfl⟩:=qj u;have aY:tp<l.length:=by have:=bC A;omega
 refine cH Z (Qz Z Z Z) (fun _=>Z) (LK hG ao ap X hl hinv W hm aY aq) ?_;rintro _ U (⟨e,rfl,he,R,aq⟩ | ⟨K3,r2,z0,z1,z2,z3,z4,z5,a2,b2_,c2,d2,ab,ac,rfl,E,a0,aq⟩)
 ·refine PZ 3 Z<|bO aq Z (QH Z Z Z aq.g0 (m:=10) Z Z (cells':=[_,_,_,_,_,_,_,_,_,_]) Z) Z (fun U aq=>?_);refine ON 10 Z<|aE Z (fun F=>?_) (fun F=>?_)
  ·refine Pt 2 Z (O Z (Qy (places:=[(0,1),(1,4)]) (zero:=[.ax,.ax,.ax,.ax,.ax]) (cs:=[_,_,_,_,_]) Z) Z<|vQ 1 Z<|eh aq Z (QH Z Z Z aq.g1 (m:=5) Z Z (cells':=[_,_,_,_,_]) Z) Z (fun U aq=>?_));refine OQ 5 Z ?_;have hR:mX k l r (Int.ofNat (tp+1))=(none,e):=by rw[xG C u A];exact CC he R
   exact br Z Z aq.g1 (m:=5) Y Z Z (.inl ⟨e,Z,R,hR,aq.pop.pop.pop⟩)
  exact absurd (bj F) (by rw[R];decide)
 refine PZ 3 Z<|bO aq Z (QH Z Z Z aq.g0 (m:=10) Z (ah Z<|ah Z<|ah Z<|ah Z<|ah Z<|ah Z<|ah E.init.leaf.2<|ah E.threads.leaf.2<|ah E.from_.leaf.2<|ah E.order.leaf.2 aC) (cells':=[_,_,_,_,_,_,_,_,_,_]) Z) Z (fun U aq=>?_);refine ON 10 Z<|aE Z (fun F=>?_) (fun F=>?_)
 ·exact absurd F (by decide)
 refine OK 4 Z<|O Z (QC Z aq.g0 (n:=10) (vs:=[_,_,_,_,_,_,_,_,_,_]) Z) Z ?_;have hpi:=(hinv.step ac).1;refine cH Z (Qz Z Z Z) (fun _=>Z) (NG hG hpi.Gi hpi.mem E a0 aq) ?_;rintro _ U ⟨K4,a4,a3,b3_,c3,d3,rfl,am,Q,M,aq⟩;refine eh aq Z (QH Z Z Z aq.g1 (m:=5) Z (ah Q.leaf.2<|ah M.init.leaf.2<|ah M.threads.leaf.2<|ah M.from_.leaf.2<|ah M.order.leaf.2 aC) (cells':=[_,_,_,_,_]) Z) Z (fun U aq=>?_);refine Px 4 Z ?_;have hR:mX k l r (Int.ofNat (tp+1))=(some r2,0):=by rw[xG C u A];exact ac
 exact br Z Z aq.g1 (m:=5) Y Z Z (.inr ⟨K4,r2,_,_,_,_,_,Z,hR,KP.le_trans ab am,Q,M,aq.pop.pop.pop⟩)
theorem EF {G:Cx} (Q:Plain G) {K:KP} {l:List Int} {v:V} (h:bR K 1 dy l v) (y:Int) {U:D} {L:Own} (aq:J U K L):
  bk Tryz.prog G 98 [v,.int .i64 y] U fun v U'=>v= .int .i64 (tS (fun x=>I y x) l 0)/\J U' K L:=by
 refine PS Q Tryz.func98 Z<|OI 9 Z<|O Z (QD h Z Z Z (e:=3) Z) Z<|OM 4 Z ?_;obtain⟨LL1,aq,hLL1⟩:=aq.named;refine bp ([4,5]++rg 8 11) (fun j t U=>∃(i:Nat),j+i=l.length/\tS (fun x=>I y x) l 0=tS (fun x=>I y x) (l.drop i) i/\t.get 8=some (.int .i64 (.ofNat i))/\J U K LL1) (l.length) ⟨0,Z,Z,Z,aq⟩ ?_;clear aq;intro R t U ar W;obtain⟨i,hj,he,F,aq⟩:=W;subst hLL1;obtain⟨oo,rfl⟩:=ar.q1 F Z;refine Ps 6 Z<|aE Z (fun M=>?_) (fun M=>?_)
 ·refine NP 15 Z ?_;obtain⟨A,u,aa⟩:=cL M;refine Qu (e:=3) (m:=1) h u Z Z Z Z (fun am ab C ac E=>?_);obtain rfl:=E;refine O Z (QF aq C Z Z) Z<|Pv 3 Z<|aE Z (fun z=>?_) (fun z=>?_)
  ·refine PX 7 Z<|aF<|aw<|bz<|aF<|aw (?_);exact aA Z Z ⟨cJ (by symm;rw[he,cR u];show(bif I y A then _ else _)=_;rw[z];rfl),aq⟩
  refine aG<|aJ<|PW 4 Z<|aO ⟨R-1,by omega,oF,i+1,by omega,by rw[he,cR u];show(bif I y A then _ else _)=_;rw[z];rfl,cI<|bg (by have:=h.bG;omega),aq⟩
 refine OL 3 Z<|aT<|PX 6 Z ?_;exact aA Z Z ⟨cJ (by symm;rw[he,fO<|bC M];rfl),aq⟩
theorem yt {G:Cx} (u:Plain G) {K:KP} {l:List Int} {v:V} (h:bR K 1 dy l v) (y:Int) {U:D} {L:Own} (aq:J U K L):
  bk Tryz.prog G 61 [v,.int .i64 y] U fun v U'=>v= .bool (l.any fun x=>I y x)/\J U' K L:=by
 refine PS u Tryz.func61 Z<|Pt 9 Z<|bf Z (Qz Z Z Z) (fun _=>Z) (EF u h y aq) (fun U aq=>?_);refine Px 5 Z ?_;exact aA Z Z ⟨cB<|wK _ _,aq⟩
theorem ET:∀(l:List Int),(l.all fun e=>aX (I e 0))= !(l.any fun x=>I 0 x)
 | []=>rfl
 | x::l=>by
  rw[List.all_cons,List.any_cons,ET l,show I 0 x=I x 0 from by rw[dF,dF];exact decide_eq_decide.2 eq_comm];cases I x 0<;>rfl
theorem BP {k:Nat} {l:List XC} {m:List Int} {g:XG}:sN k l m g=(bif (jm k l m g).isSome then !(((jm k l m g).getD []).any fun x=>I 0 x) else false):=by
 unfold sN yc;cases h:jm k l m g with
 | none=>rfl
 | some e=>
  have hf:fl k l g=some e:=by
   unfold jm at h;cases hf:fl k l g with
   | none=>rw[hf] at h;cases h
   | some e'=>
    rw[hf] at h;dsimp only at h;revert h;cases aX (I (.ofNat m.length) (.ofNat g.init.length))<;>cases lL g m 0<;>intro h<;>first | exact h | cases h
  rw[hf];exact ET e
theorem JP {G:Cx} (z:Plain G) {K:KP} (A:rh G K) {k:Nat} {l:List XC} {lv:V} (hl:bR K 2 (mY K k) l lv) {m:List Int} {mv:V} (C:bR K 1 dy m mv) {g:XG} {a b c d:V} (E:eN K g a b c d) {U:D} {L:Own} (aq:J U K L):
  bk Tryz.prog G 25 [lv,.agg [mv,a,b,c,d]] U fun v U'=>v= .bool (sN k l m g)/\J U' K L:=by
 refine PS z Tryz.func25 Z<|Pt 2 Z<|kp aq Z (cz Z Z) (fun U b1 aq=>?_);refine OO 6 Z<|O Z (QC Z aq.g0 (n:=5) (vs:=[_,_,_,_,_]) Z) Z<|cH Z (Qz Z Z Z) (fun _=>Z) (F2 z A hl C E aq) ?_;rintro _ U ⟨aa,ab,rfl,F,aq⟩;replace aq:=aq.keeps;have hE:=F.iu (K:=K);refine OO 10 Z<|ky Z (an Z) (fun u=>?_) (fun u=>?_)
 ·refine vQ 1 Z<|bf Z (Qz Z Z Z) (fun _=>Z) (yt z hE 0 aq) (fun U aq=>?_);refine O Z (cV Z) Z<|Px 5 Z ?_;exact aA Z Z ⟨cB (by rw[BP,show(jm k l m g).isSome=true from u];rfl),(aq.pop).weaken<|KP.bX _ _⟩
 refine Px 8 Z ?_;exact aA Z Z ⟨cB (by rw[BP,show(jm k l m g).isSome=false from u];rfl),(aq.pop).weaken<|KP.bX _ _⟩
theorem CV {G:Cx} (z:Plain G) {K:KP} {m1 m2:List Int} {R W:V} (A:bR K 1 dy m1 R) (C:bR K 1 dy m2 W) {g1 g2:XG} {X E c1 d1 a2 F c2 d2:V} (M:eN K g1 X E c1 d1) (Q:eN K g2 a2 F c2 d2) {U:D} {L:Own} (aq:J U K L):
  bk Tryz.prog G 22 [.agg [R,X,E,c1,d1],.agg [W,a2,F,c2,d2]] U fun v U'=>v= .bool (bif dk m1 m2 then dk g1 g2 else false)/\J U' K L:=by
 refine PS z Tryz.func22 Z<|Pt 2 Z<|kp aq Z (cz Z Z) (fun U E aq=>?_);refine kp aq Z (cz Z Z) (fun U F aq=>?_);refine OX aq 9 [0,1,0,0] Z Z<|bf Z (Qz Z Z Z) (fun _=>Z) (F0 z aq A C) (fun U aq=>?_);refine ky Z (an Z) (fun u=>?_) (fun u=>?_)
 ·refine O Z (QA 1 Z) Z<|O Z (QC Z aq.g1 (n:=4) (vs:=[_,_,_,_]) Z) Z<|O Z (QA 1 Z) Z<|O Z (QC Z aq.g0 (n:=4) (vs:=[_,_,_,_]) Z) Z<|bf Z (Qz Z Z Z) (fun _=>Z) (LA z aq M Q) (fun U aq=>?_);refine Px 5 Z ?_;exact aA Z Z ⟨cB (by rw[u];rfl),aq.pop.pop⟩
 refine Px 10 Z ?_;exact aA Z Z ⟨cB (by rw[u];rfl),aq.pop.pop⟩
theorem Gy {k:Nat} {l:List XC} {n:Int} (hf:∀c∈l,mn k c) (ha:qR k n l=true):AR k l:=by
 unfold qR at ha;rw[bA_] at ha;have z:l.length<=6:=bC (a:=6) (bT ha.2);have ha:=ha.1;rw[tL_ z] at ha;intro c hc;refine⟨hf c hc,fun x hx e he=>?_⟩;have h1:=aE_.1 ha c hc;unfold p5 at h1;cases h2:bU n (.ofNat c.ins.length) with
 | true=>rw[h2] at h1;cases h1
 | false=>
  rw[h2] at h1;have u:sf k x=true:=aE_.1 h1 x hx;unfold sf at u;cases h4:bU 4 (.ofNat x.exprs.length) with
  | true=>rw[h4] at u;cases u
  | false=>
   rw[h4] at u;have:=DX (hf c hc x hx e he) (aE_.1 u e he);omega
theorem xN {G:Cx} (z:Plain G) (aa:G.fk 70=true) (ab:G.ov 106=true) (R:G.HD 18 []=some (.bool true)) {K:KP} (M:∀U L,J U K L->nD G.gl U G.laid=true) (hgl:rh G K) {k:Nat} {l:List XC} {lv:V} (hl:bR K 2 (mY K k) l lv) (Q:∀c∈l,mn k c) {r:XM} {mv:V} (hmv:bR K 1 dy r.mem mv) {a b c d:V} (hg:eN K r.g a b c d) (p:Int) {U:D} {L:Own} (aq:J U K L):
  bk Tryz.prog G 4 [lv,.agg [mv,a,b,c,d],.int .i64 p] U fun v U'=>v= .bool true:=by
 refine PS z Tryz.func4 Z<|Pt 2 Z<|kp aq Z (cz Z Z) (fun U b1 aq=>?_);refine On 6 Z<|bf Z (Qz Z Z Z) (fun _=>Z) (Im (v:=.bool true) (z.h1 _ _ _) R Z Z (M _ _ aq) ⟨Z,aq⟩) (fun U aq=>?_);refine O Z (cV Z) Z<|Pv 3 Z<|Ol 6 Z<|bf Z (Qz Z Z Z) (fun _=>Z) (AA z aq hl 60) (fun U aq=>?_);refine O Z (cV Z) Z<|ky Z (an Z) (fun W=>?_) (fun W=>?_)
 ·refine OQ 21 Z ?_;exact aA Z Z Z
 refine O Z (QA 1 Z) Z<|O Z (QC Z aq.g0 (n:=4) (vs:=[_,_,_,_]) Z) Z<|cH Z (Qz Z Z Z) (fun _=>Z) (AB z hg 60 aq) ?_;rintro _ U ⟨ap,rfl,aq⟩;refine O Z (cV Z) Z<|vQ 1 Z<|ky Z (an Z) (fun ac=>?_) (fun ac=>?_)
 ·refine OQ 15 Z ?_;exact aA Z Z Z
 refine P3 aq 2 [0,0] Z Z<|O Z (QD hmv Z Z Z (e:=2) Z) Z<|Pv 4 Z<|aE Z (fun am=>?_) (fun am=>?_)
 ·refine Pu 7 Z ?_;exact aA Z Z Z
 refine OK 5 Z<|O Z (QC Z aq.g0 (n:=5) (vs:=[_,_,_,_,_]) Z) Z<|vQ 1 Z ?_;have hF:=Gy Q (eV W);refine cH Z (Qz Z Z Z) (fun _=>Z) (LH z aa ab hgl hl hmv hg p aq) ?_;rintro _ U (⟨e1,rfl,ao,hR1,aq⟩ | ⟨K1,r1,m1,a1,b1_,c1,d1,rfl,hR1,A,hm1,hg1,aq⟩)
 ·have hm1:bR K 1 dy ([]:List Int) .ax:=.inl ⟨Z,Z⟩;have hg1:=Ff (K:=K);refine PZ 3 Z<|kp aq Z (QE (cs:=[.ax,.ax,.ax,.ax,.ax])) (fun U b2 aq=>?_);refine bO aq Z (QH Z Z Z aq.g0 (m:=5) Z Z (cells':=[_,_,_,_,_]) Z) Z (fun U aq=>?_);refine OO 6 Z<|O Z (QC Z aq.g1 (n:=5) (vs:=[_,_,_,_,_]) Z) Z<|vQ 1 Z<|cH Z (Qz Z Z Z) (fun _=>Z) (HY z hl hF hmv hg p aq) ?_;rintro _ U (⟨e2,rfl,X,hR2,aq⟩ | ⟨K2,r2,m2,a2,b2_,c2,d2,rfl,hR2,u,C,hg2,aq⟩)
  ·have C:bR K 1 dy ([]:List Int) .ax:=.inl ⟨Z,Z⟩;have hg2:=Ff (K:=K);obtain rfl:e1=e2:=by have:=hR1.symm.trans hR2;cases this;rfl
   refine PZ 3 Z<|kp aq Z (QE (cs:=[.ax,.ax,.ax,.ax,.ax])) (fun U b3 aq=>?_);refine bO aq Z (QH Z Z Z aq.g0 (m:=5) Z Z (cells':=[_,_,_,_,_]) Z) Z (fun U aq=>?_);refine ON 4 Z (aS (l:=[(0,[]),(1,[]),(2,[]),(3,[]),(4,[]),(5,[]),(6,[]),(7,[]),(8,[]),(9,[]),(10,[]),(12,[]),(13,[]),(11,[13]),(14,[]),(15,[]),(16,[]),(17,[]),(18,[]),(19,[]),(21,[]),(22,[]),(20,[22]),(23,[]),(24,[]),(25,[]),(26,[])]) Y Y<|al Z Z (QC Z aq.g1 (n:=5) (vs:=[_,_,_,_,_]) Z) Z<|al Z Z (QC Z aq.g0 (n:=5) (vs:=[_,_,_,_,_]) Z) Z<|cA Z Z (Qz Z Z Z) (fun _=>Z) (by have q:=CV z hm1 C hg1 hg2 aq;rw[dc.2 Z,dc.2 Z] at q;exact q) (fun U aq=>?_));refine⟨aV,?_⟩;refine P1 5 Z<|dZ Z Z (an Z) (fun _=>Z) (fun E=>?_) (fun E=>?_)
   ·refine wQ 1 Z<|al Z Z (QC Z (aq.get 2 Z) (n:=5) (vs:=[_,_,_,_,_]) Z) Z<|wQ 1 Z<|al Z Z (QC Z (aq.get 2 Z) (n:=5) (vs:=[_,_,_,_,_]) Z) Z<|cA Z Z (Qz Z Z Z) (fun _=>Z) (Nz z hgl hl hmv hg aq) (fun U aq=>?_);refine⟨(bB (bN Z Z Z Z Z (QC Z (aq.get 2 Z) (n:=5) (vs:=[_,_,_,_,_]) Z)<|gH<|bS hmv.fD<|bS hg.init.fD<|bS hg.threads.fD<|bS hg.from_.fD<|bS hg.order.fD fx) aV),?_⟩;refine cA Z Z (Qz Z Z Z) (fun _=>Z) (Ku z hl hF hmv hg aq) (fun U aq=>?_);refine⟨aV,?_⟩;refine P1 2 Z<|dZ Z Z (an Z) (fun _=>Z) (fun F=>?_) (fun F=>?_)
    ·refine wQ 1 Z<|al Z Z (QC Z (aq.get 2 Z) (n:=5) (vs:=[_,_,_,_,_]) Z) Z<|wQ 1 Z<|al Z Z (QC Z (aq.get 2 Z) (n:=5) (vs:=[_,_,_,_,_]) Z) Z<|cA Z Z (Qz Z Z Z) (fun _=>Z) (JP z hgl hl hmv hg aq) (fun U aq=>?_);refine⟨(bB (bN Z Z Z Z Z (QC Z (aq.get 2 Z) (n:=5) (vs:=[_,_,_,_,_]) Z)<|gH<|bS hmv.fD<|bS hg.init.fD<|bS hg.threads.fD<|bS hg.from_.fD<|bS hg.order.fD fx) aV),?_⟩;refine cA Z Z (Qz Z Z Z) (fun _=>Z) (HV z hl hF hmv hg aq) (fun U aq=>?_);refine⟨aV,?_⟩;refine Pz 6 Z ?_;exact aA Z Z<|cB (by cases sN k l r.mem r.g<;>rfl)
    exact absurd F (by cases yc k l r.mem r.g<;>decide)
   exact absurd E (by first | decide | (rw[fP];decide))
  exact absurd (hR1.symm.trans hR2) (by simp)
 replace hl:=hl.mono A fun _ _ h=>h.mono A;replace hgl:=hgl.mono A;replace hmv:=hmv.mono A fun _ _ h=>h;replace hg:=hg.mono A
 refine PZ 3 Z<|kp aq Z (QE (cs:=[.ax,.ax,.ax,.ax,.ax])) (fun U b2 aq=>?_);refine bO aq Z (QH Z Z Z aq.g0 (m:=5) Z (ah hm1.leaf.2<|ah hg1.init.leaf.2<|ah hg1.threads.leaf.2<|ah hg1.from_.leaf.2<|ah hg1.order.leaf.2 aC) (cells':=[_,_,_,_,_]) Z) Z (fun U aq=>?_);refine OO 6 Z<|O Z (QC Z aq.g1 (n:=5) (vs:=[_,_,_,_,_]) Z) Z<|vQ 1 Z<|cH Z (Qz Z Z Z) (fun _=>Z) (HY z hl hF hmv hg p aq) ?_;rintro _ U (⟨e2,rfl,X,hR2,aq⟩ | ⟨K2,r2,m2,a2,b2_,c2,d2,rfl,hR2,u,C,hg2,aq⟩)
 ·exact absurd (hR1.symm.trans hR2) (by simp)
 replace hl:=hl.mono u fun _ _ h=>h.mono u;replace hgl:=hgl.mono u;replace hmv:=hmv.mono u fun _ _ h=>h;replace hg:=hg.mono u
 replace hm1:=hm1.mono u fun _ _ h=>h
 replace hg1:=hg1.mono u;obtain rfl:r1=r2:=by have:=hR1.symm.trans hR2;cases this;rfl
 refine PZ 3 Z<|kp aq Z (QE (cs:=[.ax,.ax,.ax,.ax,.ax])) (fun U b3 aq=>?_);refine bO aq Z (QH Z Z Z aq.g0 (m:=5) Z (ah C.leaf.2<|ah hg2.init.leaf.2<|ah hg2.threads.leaf.2<|ah hg2.from_.leaf.2<|ah hg2.order.leaf.2 aC) (cells':=[_,_,_,_,_]) Z) Z (fun U aq=>?_);refine ON 4 Z (aS (l:=[(0,[]),(1,[]),(2,[]),(3,[]),(4,[]),(5,[]),(6,[]),(7,[]),(8,[]),(9,[]),(10,[]),(12,[]),(13,[]),(11,[13]),(14,[]),(15,[]),(16,[]),(17,[]),(18,[]),(19,[]),(21,[]),(22,[]),(20,[22]),(23,[]),(24,[]),(25,[]),(26,[])]) Y Y<|al Z Z (QC Z aq.g1 (n:=5) (vs:=[_,_,_,_,_]) Z) Z<|al Z Z (QC Z aq.g0 (n:=5) (vs:=[_,_,_,_,_]) Z) Z<|cA Z Z (Qz Z Z Z) (fun _=>Z) (by have q:=CV z hm1 C hg1 hg2 aq;rw[dc.2 Z,dc.2 Z] at q;exact q) (fun U aq=>?_));refine⟨aV,?_⟩;refine P1 5 Z<|dZ Z Z (an Z) (fun _=>Z) (fun E=>?_) (fun E=>?_)
 ·refine wQ 1 Z<|al Z Z (QC Z (aq.get 2 Z) (n:=5) (vs:=[_,_,_,_,_]) Z) Z<|wQ 1 Z<|al Z Z (QC Z (aq.get 2 Z) (n:=5) (vs:=[_,_,_,_,_]) Z) Z<|cA Z Z (Qz Z Z Z) (fun _=>Z) (Nz z hgl hl hmv hg aq) (fun U aq=>?_);refine⟨(bB (bN Z Z Z Z Z (QC Z (aq.get 2 Z) (n:=5) (vs:=[_,_,_,_,_]) Z)<|gH<|bS hmv.fD<|bS hg.init.fD<|bS hg.threads.fD<|bS hg.from_.fD<|bS hg.order.fD fx) aV),?_⟩;refine cA Z Z (Qz Z Z Z) (fun _=>Z) (Ku z hl hF hmv hg aq) (fun U aq=>?_);refine⟨aV,?_⟩;refine P1 2 Z<|dZ Z Z (an Z) (fun _=>Z) (fun F=>?_) (fun F=>?_)
  ·refine wQ 1 Z<|al Z Z (QC Z (aq.get 2 Z) (n:=5) (vs:=[_,_,_,_,_]) Z) Z<|wQ 1 Z<|al Z Z (QC Z (aq.get 2 Z) (n:=5) (vs:=[_,_,_,_,_]) Z) Z<|cA Z Z (Qz Z Z Z) (fun _=>Z) (JP z hgl hl hmv hg aq) (fun U aq=>?_);refine⟨(bB (bN Z Z Z Z Z (QC Z (aq.get 2 Z) (n:=5) (vs:=[_,_,_,_,_]) Z)<|gH<|bS hmv.fD<|bS hg.init.fD<|bS hg.threads.fD<|bS hg.from_.fD<|bS hg.order.fD fx) aV),?_⟩;refine cA Z Z (Qz Z Z Z) (fun _=>Z) (HV z hl hF hmv hg aq) (fun U aq=>?_);refine⟨aV,?_⟩;refine Pz 6 Z ?_;exact aA Z Z<|cB (by cases sN k l r.mem r.g<;>rfl)
  exact absurd F (by cases yc k l r.mem r.g<;>decide)
 exact absurd E (by first | decide | (rw[fP];decide))
section
variable {H_:Type} {U:D}
theorem GG (hn:∀(b:Nat) (o:cG),U.m.get b=some o->b<U.next) {fuel:Nat} {d:DataW H_} {vs:List V} (hf:Fit Tryz.prog (fuel+6) 44 d) (u:dz Tryz.prog U (fuel+6) 44 d vs):∃m a b c e,vs= [m,a,b,c,e]/\bR (sw U) 1 dy ((eO<|cF d 0).map m3) m/\eN (sw U) (Nr<|cF d 1) a b c e:=by
 obtain⟨hl,h⟩:=gn (m:=5) Tryz.underlying44 Y Y hf u
 obtain⟨m,a,b,c,e,rfl⟩:∃m a b c e,vs= [m,a,b,c,e]:=by
  match vs,hl with
  | [m,a,b,c,e],_=>exact⟨m,a,b,c,e,Z⟩
 obtain⟨E,F⟩:Fit Tryz.prog _ 22 (cF d 0)/\dz Tryz.prog U _ 22 (cF d 0) (([m,a,b,c,e].drop 0).take<|Tryz.prog.cellsOf 22):=h 0 _ Z;obtain⟨G,K⟩:Fit Tryz.prog (fuel+5) 26 (cF d 1)/\dz Tryz.prog U (fuel+5) 26 (cF d 1) (([m,a,b,c,e].drop 1).take<|Tryz.prog.cellsOf 26):=h 1 _ Z;have z:Tryz.prog.cellsOf 22=1:=by kernel_rfl
 have A:Tryz.prog.cellsOf 26=4:=by kernel_rfl
 have L:Tryz.prog.cellsOf 2=1:=by kernel_rfl
 obtain⟨v0,C,h0⟩:=fV (m:=1) m3 dy Tryz.underlying22 L (by decide) hn E F fun x vs hf u=>(iP Tryz.underlying2 hf u).1
 obtain⟨a',b',c',e',e1,h1⟩:=GH hn G K;rw[z] at C;rw[A] at e1;simp only[List.drop_zero,List.take_succ_cons,List.take_zero,List.drop_succ_cons,List.cons.injEq,and_true] at C e1;obtain⟨rfl,rfl,rfl,rfl⟩:=e1;subst C;exact⟨_,_,_,_,_,Z,h0,h1⟩
end
theorem DJ {w:World} {base:Nat} {v:Value} (u:Value.okWide Tryz.prog w .any base 44 v):∃c:Array Value,v= .agg c:=by
 unfold Value.okWide at u;rw[Tryz.underlying44] at u;obtain⟨c,rfl,_⟩:=u;exact⟨c,Z⟩
end Go.Ev
end
