/- Part of the proof: an evaluator of the model's code, rules for walks on it, walks. Without conditions. -/
import Derived.Test.YtpomgjnfncgkgaaGreatDoorEb
import Derived.Test.YtpomgjnfncgkgaaGreatDoorEd
import Derived.Test.YtpomgjnfncgkgaaGreatDoorEc
import Derived.Test.YtpomgjnfncgkgaaGreatDoorProg
import Derived.KernelRfl
set_option linter.unusedSectionVars false
set_option linter.unusedVariables false
set_option linter.unusedSimpArgs false
noncomputable section
namespace Go.Ev
variable [Env]
open Go.Proofs
set_option maxRecDepth 4000
set_option maxHeartbeats 8000000
theorem LA {G:Cx} (hG:Plain G) {K:KP} {g1 g2:XG} {a1 b1 c1 d1 a2 b2 c2 d2:V} {U:D} {L:Own} (aq:J U K L) (h1:eN K g1 a1 b1 c1 d1) (h2:eN K g2 a2 b2 c2 d2):
  bk Tryz.prog G 17 [.agg [a1,b1,c1,d1],.agg [a2,b2,c2,d2]] U fun v U'=>v= .bool (dk g1 g2)/\J U' K L:=by
 obtain⟨cc,aa,ab,ac⟩:=h1;obtain⟨ce,a6,a7,a8⟩:=h2;refine PS hG Tryz.func17 Z<|Pt 2 Z<|kp aq Z (cz Z Z) (fun U b1 aq=>?_);refine kp aq Z (cz Z Z) (fun U b2 aq=>?_);refine Ou aq 10 [0,1,0,0] Z Z<|bf Z (Qz Z Z Z) (fun _=>Z) (F0 hG aq cc ce) (fun U aq=>?_);refine O Z (cV Z) Z<|ky Z (an Z) (fun u=>?_) (fun u=>?_)
 ·refine OQ 36 Z ?_;exact aA Z Z ⟨cB (by have z:dk g1.init g2.init=false:=(by simpa using u);rw[nk];simp only[z,Bool.and_true,Bool.true_and,Bool.and_false,Bool.false_and]),aq.pop.pop⟩
 refine P3 aq 2 [1,1] Z Z<|O Z (QD aa Z Z Z (e:=57) Z) Z<|P3 aq 2 [1,0] Z Z<|O Z (QD a6 Z Z Z (e:=57) Z) Z<|PZ 2 Z<|ky Z (an Z) (fun A=>?_) (fun A=>?_)
 ·refine OQ 27 Z ?_;exact aA Z Z ⟨cB (by have z:dk g1.init g2.init=true:=(by simpa using u);have e1:=eZ (bT A);rw[nk];simp only[z,e1,Bool.and_true,Bool.true_and,Bool.and_false,Bool.false_and]),aq.pop.pop⟩
 refine P3 aq 2 [2,1] Z Z<|O Z (QD ab Z Z Z (e:=74) Z) Z<|P3 aq 2 [2,0] Z Z<|O Z (QD a7 Z Z Z (e:=74) Z) Z<|PZ 2 Z<|ky Z (an Z) (fun C=>?_) (fun C=>?_)
 ·refine OQ 18 Z ?_;exact aA Z Z ⟨cB (by have z:dk g1.init g2.init=true:=(by simpa using u);have e2:=eZ (bT C);rw[nk];simp only[z,e2,Bool.and_true,Bool.true_and,Bool.and_false,Bool.false_and]),aq.pop.pop⟩
 refine P3 aq 2 [3,1] Z Z<|O Z (QD ac Z Z Z (e:=74) Z) Z<|P3 aq 2 [3,0] Z Z<|O Z (QD a8 Z Z Z (e:=74) Z) Z<|Pv 4 Z<|aE Z (fun am=>?_) (fun am=>?_)
 ·refine Pu 7 Z ?_;exact aA Z Z ⟨cB (by have z:dk g1.init g2.init=true:=(by simpa using u);have e3:=eZ (bT am);rw[nk];simp only[z,e3,Bool.and_true,Bool.true_and,Bool.and_false,Bool.false_and]),aq.pop.pop⟩
 refine Ok 9 Z ?_;obtain⟨LL1,aq,hLL1⟩:=aq.named;refine bp ([4,5]++rg 41 19) (fun j t U=>∃(i:Nat),j+i=g1.threads.length/\(∀k,k<i->g1.threads[k]?=g2.threads[k]?)/\t.get 5=some (.int .i64 (.ofNat i))/\J U K LL1) (g1.threads.length) ⟨0,Z,fun k hk=>absurd hk (nZ_ _),Z,aq⟩ ?_;clear aq;intro j4 t U ar hI;obtain⟨i,c9,ao,cg,aq⟩:=hI;subst hLL1;obtain⟨oo,rfl⟩:=ar.q1 cg Z;refine OU aq 6 [1,1] Z Z<|O Z (QD aa Z Z Z (e:=57) Z) Z<|Pv 3 Z<|aE Z (fun E=>?_) (fun E=>?_)
 ·refine NO 5 Z<|aS (l:=zp [0,1,2,3,4,5,6,7,8,9,10,11]) Y Y<|P4 aq 3 [1,1] Z Z ?_;obtain⟨dd,F,a9⟩:=cL E;refine Qv (e:=57) (m:=1) aa F Z Z Z Z Z (fun dl cl bb cn be=>?_);have hr51':=be;obtain⟨dm,rfl,bi⟩:=hr51';refine al Z Z (QF aq bb Z Z) Z<|P4 aq 3 [1,0] Z Z ?_;obtain⟨dr,M⟩:=cm (show _<g2.threads.length from by rw[<-dB (bj A)];exact a9);refine Qv (e:=57) (m:=1) a6 M Z Z Z Z Z (fun ds co bl cp bm=>?_);have hr56':=bm;obtain⟨dx,rfl,bo⟩:=hr56';refine al Z Z (QF aq bl Z Z) Z<|cA Z Z (Qz Z Z Z) (fun _=>Z) (JO hG aq bi bo) (fun U aq=>?_);refine⟨aV,?_⟩;refine al Z Z (cV Z) Z<|Py 2 Z<|aE Z (fun aY=>?_) (fun aY=>?_)
  ·refine PX 6 Z<|aF<|aw<|bz<|aF<|aw (?_);exact aA Z Z ⟨cB (by have z:dk g1.init g2.init=true:=(by simpa using u);have e1:=fA F M (by simpa using aY);rw[nk];simp only[z,e1,Bool.and_true,Bool.true_and,Bool.and_false,Bool.false_and]),aq.pop.pop⟩
  refine aG<|aJ<|PW 5 Z<|aO ⟨j4-1,by omega,oF,i+1,by omega,jH ao F M (by simpa using aY),cI<|bg (by have:=aa.bG;omega),aq⟩
 refine OL 3 Z<|aT<|OH 7 Z ?_;obtain⟨LL2,aq,hLL2⟩:=aq.named;refine bp ([4,6]++rg 60 19) (fun j t U=>∃(i2:Nat),j+i2=g1.from_.length/\(∀k,k<i2->g1.from_[k]?=g2.from_[k]?)/\t.get 6=some (.int .i64 (.ofNat i2))/\J U K LL2) (g1.from_.length) ⟨0,Z,fun k hk=>absurd hk (nZ_ _),Z,aq⟩ ?_;clear aq;intro j9 t U ar hI;obtain⟨i2,d0,a0,ch,aq⟩:=hI;subst hLL2;obtain⟨oo,rfl⟩:=ar.q1 ch Z;refine OU aq 6 [2,1] Z Z<|O Z (QD ab Z Z Z (e:=74) Z) Z<|Pv 3 Z<|aE Z (fun ap=>?_) (fun ap=>?_)
 ·refine NO 5 Z<|aS (l:=zp [0,1,2,3,4,5,6,7,8,9,10,11]) Y Y<|P4 aq 3 [2,1] Z Z ?_;obtain⟨d3,Q,bs⟩:=cL ap;refine Qv (e:=74) (m:=1) ab Q Z Z Z Z Z (fun d4 cs bt cv bv=>?_);have hr70':=bv;obtain⟨d5,rfl,bw⟩:=hr70';refine al Z Z (QF aq bt Z Z) Z<|P4 aq 3 [2,0] Z Z ?_;obtain⟨d6,R⟩:=cm (show _<g2.from_.length from by rw[<-dB (bj C)];exact bs);refine Qv (e:=74) (m:=1) a7 R Z Z Z Z Z (fun d7 cx b0 c0 b3=>?_);have hr75':=b3;obtain⟨d8,rfl,b4⟩:=hr75';refine al Z Z (QF aq b0 Z Z) Z<|cA Z Z (Qz Z Z Z) (fun _=>Z) (Ma hG aq bw b4) (fun U aq=>?_);refine⟨aV,?_⟩;refine al Z Z (cV Z) Z<|Py 2 Z<|aE Z (fun a3=>?_) (fun a3=>?_)
  ·refine PX 6 Z<|aF<|aw<|bz<|aF<|aw (?_);exact aA Z Z ⟨cB (by have z:dk g1.init g2.init=true:=(by simpa using u);have e1:=ei (dB<|bj A) (bC E) ao;have e2:=fA Q R (by simpa using a3);rw[nk];simp only[z,e1,e2,Bool.and_true,Bool.true_and,Bool.and_false,Bool.false_and]),aq.pop.pop⟩
  refine aG<|aJ<|PW 5 Z<|aO ⟨j9-1,by omega,oF,i2+1,by omega,jH a0 Q R (by simpa using a3),cI<|bg (by have:=ab.bG;omega),aq⟩
 refine OL 3 Z<|aT<|OH 7 Z ?_;obtain⟨LL3,aq,hLL3⟩:=aq.named;refine bp ([4,7]++rg 79 19) (fun j t U=>∃(i3:Nat),j+i3=g1.order.length/\(∀k,k<i3->g1.order[k]?=g2.order[k]?)/\t.get 7=some (.int .i64 (.ofNat i3))/\J U K LL3) (g1.order.length) ⟨0,Z,fun k hk=>absurd hk (nZ_ _),Z,aq⟩ ?_;clear aq;intro ci t U ar hI;obtain⟨i3,c3,aI,ck,aq⟩:=hI;subst hLL3;obtain⟨oo,rfl⟩:=ar.q1 ck Z;refine OU aq 6 [3,1] Z Z<|O Z (QD ac Z Z Z (e:=74) Z) Z<|Pv 3 Z<|aE Z (fun a4=>?_) (fun a4=>?_)
 ·refine NO 5 Z<|aS (l:=zp [0,1,2,3,4,5,6,7,8,9,10,11]) Y Y<|P4 aq 3 [3,1] Z Z ?_;obtain⟨d9,W,b5⟩:=cL a4;refine Qv (e:=74) (m:=1) ac W Z Z Z Z Z (fun eb c4 b6 c5 b7=>?_);have hr89':=b7;obtain⟨ee,rfl,b8⟩:=hr89';refine al Z Z (QF aq b6 Z Z) Z<|P4 aq 3 [3,0] Z Z ?_;obtain⟨eg,X⟩:=cm (show _<g2.order.length from by rw[<-dB (bj am)];exact b5);refine Qv (e:=74) (m:=1) a8 X Z Z Z Z Z (fun el c7 b9 c8 ca=>?_);have hr94':=ca;obtain⟨em,rfl,cb⟩:=hr94';refine al Z Z (QF aq b9 Z Z) Z<|cA Z Z (Qz Z Z Z) (fun _=>Z) (Ma hG aq b8 cb) (fun U aq=>?_);refine⟨aV,?_⟩;refine al Z Z (cV Z) Z<|Py 2 Z<|aE Z (fun a5=>?_) (fun a5=>?_)
  ·refine PX 6 Z<|aF<|aw<|bz<|aF<|aw (?_);exact aA Z Z ⟨cB (by have z:dk g1.init g2.init=true:=(by simpa using u);have e1:=ei (dB<|bj A) (bC E) ao;have e2:=ei (dB<|bj C) (bC ap) a0;have e3:=fA W X (by simpa using a5);rw[nk];simp only[z,e1,e2,e3,Bool.and_true,Bool.true_and,Bool.and_false,Bool.false_and]),aq.pop.pop⟩
  refine aG<|aJ<|PW 5 Z<|aO ⟨ci-1,by omega,oF,i3+1,by omega,jH aI W X (by simpa using a5),cI<|bg (by have:=ac.bG;omega),aq⟩
 refine OL 3 Z<|aT<|PX 6 Z ?_;exact aA Z Z ⟨cB (by have z:dk g1.init g2.init=true:=(by simpa using u);have e1:=ei (dB<|bj A) (bC E) ao;have e2:=ei (dB<|bj C) (bC ap) a0;have e3:=ei (dB<|bj am) (bC a4) aI;rw[nk];simp only[z,e1,e2,e3,Bool.and_true,Bool.true_and,Bool.and_false,Bool.false_and]),aq.pop.pop⟩
theorem F3 {G:Cx} (z:Plain G) {K:KP} (e:db) {U:D} {L:Own} (aq:J U K L):bk Tryz.prog G 110 [.agg<|ints e.ints] U fun v U'=>v= .bool (dD e)/\J U' K L:=by
 refine PS z Tryz.func110 Z<|Pt 2 Z<|kp aq Z (cz Z Z) (fun U b1 aq=>?_);refine OX aq 8 [0,0] Z Z<|ky Z (an Z) (fun u=>?_) (fun u=>?_)
 ·refine Px 8 Z ?_;exact aA Z Z ⟨cB (by unfold dD;simp only[u,ct,cf]),aq.pop⟩
 refine PF aq 8 [0,0] Z Z ?_;exact aA Z Z ⟨cB (by unfold dD;simp only[u,ct,cf]),aq.pop⟩
theorem kj {G:Cx} (z:Plain G) {K:KP} (e:db) {U:D} {L:Own} (aq:J U K L):bk Tryz.prog G 68 [.agg<|ints e.ints] U fun v U'=>v= .bool (bq e)/\J U' K L:=by
 refine PS z Tryz.func68 Z<|Pt 2 Z<|kp aq Z (cz Z Z) (fun U b1 aq=>?_);refine OX aq 8 [0,0] Z Z<|ky Z (an Z) (fun u=>?_) (fun u=>?_)
 ·refine Px 8 Z ?_;exact aA Z Z ⟨cB (by unfold bq;simp only[u,ct,cf]),aq.pop⟩
 refine PF aq 8 [0,0] Z Z ?_;exact aA Z Z ⟨cB (by unfold bq;simp only[u,ct,cf]),aq.pop⟩
theorem AF {G:Cx} (hG:Plain G) {K:KP} {g:XG} {a b c d:V} (h:eN K g a b c d) (th ix:Int) {U:D} {L:Own} (aq:J U K L):bk Tryz.prog G 71 [.agg [a,b,c,d],.agg [.int .i64 th,.int .i64 ix]] U fun v U'=>v= .tuple [.agg<|ints (AP<|fh g ⟨th,ix⟩).ints,.bool (fh g ⟨th,ix⟩).isSome]/\J U' K L:=by
 have h':=h;obtain⟨hi,R,hf,ho⟩:=h';refine PS hG Tryz.func71 Z<|Pt 2 Z<|kp aq Z (cz Z Z) (fun U b1 aq=>?_);refine kp aq Z (cz Z Z) (fun U b2 aq=>?_);refine kp aq Z (QE (cs:=[T,T,T,T,T])) (fun U b3 aq=>?_);refine Ou aq 9 [0,1] Z Z<|ky Z (an Z) (fun h9=>?_) (fun h9=>?_)
 ·refine OO 17 Z (O Z (Qy (places:=[(0,1),(1,1),(2,1),(3,1),(4,1)]) (zero:=[T,T,T,T,T]) (cs:=[_,_,_,_,_]) Z) Z<|bO aq Z (QH Z Z Z aq.g0 (m:=5) Z Z (cells':=[_,_,_,_,_]) Z) Z (fun U aq=>?_));refine OQ 5 Z ?_;exact br Z Z aq.g0 (m:=5) Y Z Z ⟨by rw[tL h9];rfl,aq.pop.pop.pop⟩
 refine P3 aq 4 [0,1,1,2] Z Z<|O Z (QD R Z Z Z (e:=57) Z) Z<|PZ 2 Z<|ky Z (an Z) (fun z=>?_) (fun z=>?_)
 ·refine OO 9 Z (O Z (Qy (places:=[(0,1),(1,1),(2,1),(3,1),(4,1)]) (zero:=[T,T,T,T,T]) (cs:=[_,_,_,_,_]) Z) Z<|bO aq Z (QH Z Z Z aq.g0 (m:=5) Z Z (cells':=[_,_,_,_,_]) Z) Z (fun U aq=>?_));refine OQ 5 Z ?_;exact br Z Z aq.g0 (m:=5) Y Z Z ⟨by rw[BD z];rfl,aq.pop.pop.pop⟩
 refine PC aq 6 [1,1] Z Z<|aE Z (fun F=>?_) (fun F=>?_)
 ·refine Pt 2 Z (O Z (Qy (places:=[(0,1),(1,1),(2,1),(3,1),(4,1)]) (zero:=[T,T,T,T,T]) (cs:=[_,_,_,_,_]) Z) Z<|bO aq Z (QH Z Z Z aq.g0 (m:=5) Z Z (cells':=[_,_,_,_,_]) Z) Z (fun U aq=>?_));refine OQ 5 Z ?_;exact br Z Z aq.g0 (m:=5) Y Z Z ⟨by rw[qI F];rfl,aq.pop.pop.pop⟩
 obtain⟨tn,rfl⟩:=iQ h9;obtain⟨ixn,rfl⟩:=iQ F;refine Ot aq 8 [0,1] Z Z<|Pv 2 Z<|aE Z (fun A=>?_) (fun A=>?_)
 ·obtain rfl:tn=0:=by rw[dF] at A;simpa using A
  refine OU aq 7 [1,1,0,2] Z Z<|O Z (QD hi Z Z Z (e:=2) Z) Z<|Pv 3 Z<|aE Z (fun M=>?_) (fun M=>?_)
  ·refine Pt 2 Z (O Z (Qy (places:=[(0,1),(1,1),(2,1),(3,1),(4,1)]) (zero:=[T,T,T,T,T]) (cs:=[_,_,_,_,_]) Z) Z<|bO aq Z (QH Z Z Z aq.g0 (m:=5) Z Z (cells':=[_,_,_,_,_]) Z) Z (fun U aq=>?_));refine Px 4 Z<|aw<|aw (?_);exact br Z Z aq.g0 (m:=5) Y Z Z ⟨by rw[show fh g _=none from by show(g.init[ixn]?).map _=_;rw[gN_<|nZ M];rfl];rfl,aq.pop.pop.pop⟩
  refine OJ 3 Z<|aS (l:=zp [0,1,2,3,4,5,6,7,8,9,10]) Y Y<|P4 aq 6 [1,1,0,2,1,1] Z Z ?_;obtain⟨a7,C⟩:=cm (n8 M);refine Qv (e:=2) (m:=1) hi C Z Z Z Z Z (fun a8 aY W a0 X=>?_);obtain rfl:=X;refine al Z Z (QF aq W Z Z) Z (al Z Z (Qy (places:=[(0,1),(1,1),(2,1),(3,1),(4,1)]) (zero:=[T,T,T,T,T]) (cs:=[_,_,_,_,_]) Z) Z<|kb aq Z Z (QH Z Z Z aq.g0 (m:=5) Z Z (cells':=[_,_,_,_,_]) Z) Z (fun U aq=>?_));refine⟨aV,?_⟩;refine OT 5 Z ?_;exact br Z Z aq.g0 (m:=5) Y Z Z ⟨by rw[show fh g _=some _ from by show(g.init[ixn]?).map _=_;rw[C];rfl];rfl,aq.pop.pop.pop⟩
 obtain⟨tm,rfl⟩:=FR A;refine OJ 3 Z<|ak<|aS (l:=zp [0,1,2,3,4,5,6,7,8,9,10]) Y Y<|P4 aq 7 [1,1,1,2,0,1] Z Z ?_;obtain⟨a9,u⟩:=cm (show tm<g.threads.length from by have:=mK z;omega);refine Qv (e:=57) (m:=1) R u Z Z Z Z (cI<|ej (by have:=mK z;have:=R.bG;omega)) (fun bb a1 aa a2 ab=>?_);have hr49':=ab;obtain⟨be,rfl,ac⟩:=hr49';refine al Z Z (QF aq aa Z Z) Z<|al Z Z (QD ac Z Z Z (e:=56) Z) Z<|Py 3 Z<|aE Z (fun Q=>?_) (fun Q=>?_)
 ·refine Pt 2 Z (O Z (Qy (places:=[(0,1),(1,1),(2,1),(3,1),(4,1)]) (zero:=[T,T,T,T,T]) (cs:=[_,_,_,_,_]) Z) Z<|bO aq Z (QH Z Z Z aq.g0 (m:=5) Z Z (cells':=[_,_,_,_,_]) Z) Z (fun U aq=>?_));refine OQ 5 Z ?_;exact br Z Z aq.g0 (m:=5) Y Z Z ⟨by rw[show fh g _=none from by show(g.threads[tm]?).bind _=_;rw[u];exact gN_<|nZ Q];rfl,aq.pop.pop.pop⟩
 refine OJ 3 Z<|aS (l:=zp [0,1,2,3,4,5,6,7,8,9,10,11,12]) Y Y<|P4 aq 5 [1,2,0,1] Z Z<|Qv (e:=57) (m:=1) R u Z Z Z Z (cI<|ej (by have:=mK z;have:=R.bG;omega)) (fun bi a3 am a4 ao=>?_);have hr59':=ao;obtain⟨bl,rfl,ap⟩:=hr59';refine al Z Z (QF aq am Z Z) Z<|P4 aq 2 [1,1] Z Z ?_;obtain⟨bm,E⟩:=cm (n8 Q);refine Qv (e:=56) (m:=5) ap E Z Z Z Z Z (fun bo a5 ar a6 aI=>?_);obtain rfl:=aI;refine al Z Z (QG aq ar Z Z) Z<|kb aq Z Z (QH Z Z Z aq.g0 (m:=5) Z Z (cells':=[_,_,_,_,_]) Z) Z (fun U aq=>?_);refine⟨aV,?_⟩;refine Pz 4 Z ?_;exact br Z Z aq.g0 (m:=5) Y Z Z ⟨by rw[show fh g _=some _ from by show(g.threads[tm]?).bind _=_;rw[u];exact E];rfl,aq.pop.pop.pop⟩
theorem AG {G:Cx} (X:Plain G) {K:KP} (e:db) (n:Int) {U:D} {L:Own} (aq:J U K L):bk Tryz.prog G 74 [.agg<|ints e.ints,.int .i64 n] U fun v U'=>v= .bool (bW e n)/\J U' K L:=by
 refine PS X Tryz.func74 Z<|Pt 2 Z<|kp aq Z (cz Z Z) (fun U b1 aq=>?_);refine Ou aq 9 [0,0] Z Z<|ky Z (an Z) (fun R=>?_) (fun R=>?_)
 ·refine OQ 24 Z ?_;exact aA Z Z ⟨cB (by unfold bW aX;simp only[R,ct,cf]),aq.pop⟩
 refine P3 aq 4 [0,0] Z Z<|ky Z (an Z) (fun u=>?_) (fun u=>?_)
 ·refine OQ 19 Z ?_;exact aA Z Z ⟨cB (by unfold bW aX;simp only[R,u,ct,cf]),aq.pop⟩
 refine P3 aq 4 [2,0] Z Z<|ky Z (an Z) (fun A=>?_) (fun A=>?_)
 ·refine OQ 14 Z ?_;exact aA Z Z ⟨cB (by unfold bW aX;simp only[R,u,A,ct,cf]),aq.pop⟩
 refine PC aq 6 [2,0] Z Z<|aE Z (fun C=>?_) (fun C=>?_)
 ·refine Pu 7 Z ?_;exact aA Z Z ⟨cB (by unfold bW aX;simp only[R,u,A,C,ct,cf]),aq.pop⟩
 refine Ol 5 Z<|O Z (QC Z aq.g0 (n:=5) (vs:=[_,_,_,_,_]) Z) Z<|bf Z (Qz Z Z Z) (fun _=>Z) (F3 X _ aq) (fun U aq=>?_);refine O Z (cV Z) Z<|ky Z (an Z) (fun F=>?_) (fun F=>?_)
 ·refine P3 aq 4 [3,0] Z Z<|ky Z (an Z) (fun W=>?_) (fun W=>?_)
  ·refine OQ 19 Z ?_;exact aA Z Z ⟨cB (by unfold bW aX;simp only[R,u,A,C,F,W,ct,cf]),aq.pop⟩
  refine O Z (QC Z aq.g0 (n:=5) (vs:=[_,_,_,_,_]) Z) Z<|bf Z (Qz Z Z Z) (fun _=>Z) (kj X _ aq) (fun U aq=>?_);refine O Z (cV Z) Z<|ky Z (an Z) (fun E=>?_) (fun E=>?_)
  ·refine PC aq 7 [4,0] Z Z<|aE Z (fun Q=>?_) (fun Q=>?_)
   ·refine Pu 7 Z ?_;exact aA Z Z ⟨cB (by unfold bW aX;simp only[R,u,A,C,F,W,E,Q,ct,cf]),aq.pop⟩
   refine Ot aq 8 [0,0] Z Z<|Pv 2 Z<|aE Z (fun z=>?_) (fun z=>?_)
   ·refine PB aq 10 [1,0] Z Z ?_;exact aA Z Z ⟨cB (by unfold bW aX;simp only[R,u,A,C,F,W,E,Q,z,ct,cf]),aq.pop⟩
   refine OV aq 7 [1,0] Z Z<|ky Z (an Z) (fun M=>?_) (fun M=>?_)
   ·refine PF aq 9 [1,0] Z Z ?_;exact aA Z Z ⟨cB (by unfold bW aX;simp only[R,u,A,C,F,W,E,Q,z,M,ct,cf]),aq.pop⟩
   refine Px 9 Z ?_;exact aA Z Z ⟨cB (by unfold bW aX;simp only[R,u,A,C,F,W,E,Q,z,M,ct,cf]),aq.pop⟩
  refine Pv 8 Z<|Ot aq 8 [0,0] Z Z<|Pv 2 Z<|aE Z (fun z=>?_) (fun z=>?_)
  ·refine PB aq 10 [1,0] Z Z ?_;exact aA Z Z ⟨cB (by unfold bW aX;simp only[R,u,A,C,F,W,E,z,ct,cf]),aq.pop⟩
  refine OV aq 7 [1,0] Z Z<|ky Z (an Z) (fun M=>?_) (fun M=>?_)
  ·refine PF aq 9 [1,0] Z Z ?_;exact aA Z Z ⟨cB (by unfold bW aX;simp only[R,u,A,C,F,W,E,z,M,ct,cf]),aq.pop⟩
  refine Px 9 Z ?_;exact aA Z Z ⟨cB (by unfold bW aX;simp only[R,u,A,C,F,W,E,z,M,ct,cf]),aq.pop⟩
 refine PZ 5 Z<|O Z (QC Z aq.g0 (n:=5) (vs:=[_,_,_,_,_]) Z) Z<|bf Z (Qz Z Z Z) (fun _=>Z) (kj X _ aq) (fun U aq=>?_);refine O Z (cV Z) Z<|ky Z (an Z) (fun E=>?_) (fun E=>?_)
 ·refine PC aq 7 [4,0] Z Z<|aE Z (fun Q=>?_) (fun Q=>?_)
  ·refine Pu 7 Z ?_;exact aA Z Z ⟨cB (by unfold bW aX;simp only[R,u,A,C,F,E,Q,ct,cf]),aq.pop⟩
  refine Ot aq 8 [0,0] Z Z<|Pv 2 Z<|aE Z (fun z=>?_) (fun z=>?_)
  ·refine PB aq 10 [1,0] Z Z ?_;exact aA Z Z ⟨cB (by unfold bW aX;simp only[R,u,A,C,F,E,Q,z,ct,cf]),aq.pop⟩
  refine OV aq 7 [1,0] Z Z<|ky Z (an Z) (fun M=>?_) (fun M=>?_)
  ·refine PF aq 9 [1,0] Z Z ?_;exact aA Z Z ⟨cB (by unfold bW aX;simp only[R,u,A,C,F,E,Q,z,M,ct,cf]),aq.pop⟩
  refine Px 9 Z ?_;exact aA Z Z ⟨cB (by unfold bW aX;simp only[R,u,A,C,F,E,Q,z,M,ct,cf]),aq.pop⟩
 refine Pv 8 Z<|Ot aq 8 [0,0] Z Z<|Pv 2 Z<|aE Z (fun z=>?_) (fun z=>?_)
 ·refine PB aq 10 [1,0] Z Z ?_;exact aA Z Z ⟨cB (by unfold bW aX;simp only[R,u,A,C,F,E,z,ct,cf]),aq.pop⟩
 refine OV aq 7 [1,0] Z Z<|ky Z (an Z) (fun M=>?_) (fun M=>?_)
 ·refine PF aq 9 [1,0] Z Z ?_;exact aA Z Z ⟨cB (by unfold bW aX;simp only[R,u,A,C,F,E,z,M,ct,cf]),aq.pop⟩
 refine Px 9 Z ?_;exact aA Z Z ⟨cB (by unfold bW aX;simp only[R,u,A,C,F,E,z,M,ct,cf]),aq.pop⟩
theorem CT {G:Cx} (F:Plain G) {K:KP} {g:XG} {a b c d:V} (h:eN K g a b c d) (th ix fth fix_:Int) {U:D} {L:Own} (aq:J U K L):bk Tryz.prog G 75 [.agg [a,b,c,d],.agg [.int .i64 th,.int .i64 ix],.agg [.int .i64 fth,.int .i64 fix_]] U fun v U'=>v= .bool (dJ g ⟨th,ix⟩ ⟨fth,fix_⟩)/\J U' K L:=by
 have h':=h;obtain⟨hi,ht,hf,ho⟩:=h';refine PS F Tryz.func75 Z<|Pt 2 Z<|kp aq Z (cz Z Z) (fun U b1 aq=>?_);refine kp aq Z (cz Z Z) (fun U b2 aq=>?_);refine kp aq Z (cz Z Z) (fun U b3 aq=>?_);refine OO 5 Z<|O Z (QC Z (aq.get 2 Z) (n:=4) (vs:=[_,_,_,_]) Z) Z<|O Z (QC Z aq.g1 (n:=2) (vs:=[_,_]) Z) Z<|bf Z (Qz Z Z Z) (fun _=>Z) (AF F h _ _ aq) (fun U aq=>?_);refine PZ 3 Z<|kp aq Z (QE (cs:=[T,T,T,T,T])) (fun U b4 aq=>?_);refine bO aq Z (QH Z Z Z aq.g0 (m:=5) Z Z (cells':=[_,_,_,_,_]) Z) Z (fun U aq=>?_);refine On 6 Z<|O Z (QC Z aq.g0 (n:=5) (vs:=[_,_,_,_,_]) Z) Z<|bf Z (Qz Z Z Z) (fun _=>Z) (F3 F _ aq) (fun U aq=>?_);refine O Z (cV Z) Z<|Pv 2 Z<|aE Z (fun u=>?_) (fun u=>?_)
 ·refine Pt 2 Z (O Z (QC Z aq.g1 (n:=2) (vs:=[_,_]) Z) Z (O Z (Qy (places:=[(0,1),(1,1)]) (zero:=[T,T]) (cs:=[_,_]) Z) Z<|O Z (J2 (n:=2) (ca:=[_,_]) (cb:=[_,_]) Y Z Z Z Z) Z<|OQ 5 Z ?_));exact aA Z Z ⟨cB (by unfold dJ;simp only[u,ct,cf]),aq.pop.pop.pop.pop⟩
 refine OK 4 Z<|O Z (QC Z (aq.get 3 Z) (n:=4) (vs:=[_,_,_,_]) Z) Z<|O Z (QC Z aq.g1 (n:=2) (vs:=[_,_]) Z) Z<|bf Z (Qz Z Z Z) (fun _=>Z) (AF F h _ _ aq) (fun U aq=>?_);refine PZ 3 Z<|kp aq Z (QE (cs:=[T,T,T,T,T])) (fun U b5 aq=>?_);refine bO aq Z (QH Z Z Z aq.g0 (m:=5) Z Z (cells':=[_,_,_,_,_]) Z) Z (fun U aq=>?_);refine OO 6 Z<|ky Z (an Z) (fun z=>?_) (fun z=>?_)
 ·refine O Z (QC Z (aq.get 2 Z) (n:=2) (vs:=[_,_]) Z) Z<|O Z (QC Z (aq.get 3 Z) (n:=2) (vs:=[_,_]) Z) Z<|O Z (zw (n:=2) (ca:=[_,_]) (cb:=[_,_]) Y Z Z Z Z) Z<|vQ 1 Z<|ky Z (an Z) (fun A=>?_) (fun A=>?_)
  ·refine O Z (QC Z aq.g0 (n:=5) (vs:=[_,_,_,_,_]) Z) Z<|bf Z (Qz Z Z Z) (fun _=>Z) (kj F _ aq) (fun U aq=>?_);refine vQ 1 Z<|ky Z (an Z) (fun C=>?_) (fun C=>?_)
   ·refine P3 aq 6 [1,0,1,1] Z Z<|ky Z (an Z) (fun E=>?_) (fun E=>?_)
    ·refine PF aq 10 [4,0,3,1] Z Z ?_;exact aA Z Z ⟨cB (by unfold dJ;simp only[u,z,A,C,E,ct,cf]),aq.pop.pop.pop.pop.pop⟩
    refine Px 10 Z ?_;exact aA Z Z ⟨cB (by unfold dJ;simp only[u,z,A,C,E,ct,cf]),aq.pop.pop.pop.pop.pop⟩
   refine Px 17 Z ?_;exact aA Z Z ⟨cB (by unfold dJ;simp only[u,z,A,C,ct,cf]),aq.pop.pop.pop.pop.pop⟩
  refine Px 21 Z ?_;exact aA Z Z ⟨cB (by unfold dJ;simp only[u,z,A,ct,cf]),aq.pop.pop.pop.pop.pop⟩
 refine Px 26 Z ?_;exact aA Z Z ⟨cB (by unfold dJ;simp only[u,z,ct,cf]),aq.pop.pop.pop.pop.pop⟩
theorem vx:C4 Tryz.prog 165 67 3 2:=⟨by kernel_rfl,by kernel_rfl,by kernel_rfl,by kernel_rfl,fun k hk=>by
 match k,hk with
 | [a,b],_=>
  show mI Tryz.prog 67 (.agg<|ints [a,b])=true
  kernel_rfl⟩
theorem Kr {ls:List (List dw)} {m1 m u:LM} {i z:Nat} {l:List dw} {x:dw} (h1:nw ls 0 m1=nw (ls.drop i) i u) (hx:ls[i]?=some l) (h2:lQ i l u=lQ i (l.drop z) m) (hy:l[z]?=some x) (h:(gg m x.ints).isSome=false):nw ls 0 m1=none:=by
 rw[h1,cR hx];show(lQ i l u).bind _=none;rw[h2,cR hy];show(bif (gg m x.ints).isSome then _ else none).bind _=none;rw[h];rfl
theorem Ks {ls:List (List dw)} {m1 m u:LM} {i z:Nat} {l:List dw} {x:dw} (h1:nw ls 0 m1=nw (ls.drop i) i u) (hx:ls[i]?=some l) (h2:lQ i l u=lQ i (l.drop z) m) (hy:l[z]?=some x) (h:(gg m x.ints).isSome=true) (h':I ((gg m x.ints).getD 0) (.ofNat i)=false):nw ls 0 m1=none:=by
 rw[h1,cR hx];show(lQ i l u).bind _=none;rw[h2,cR hy];show(bif (gg m x.ints).isSome then(bif I ((gg m x.ints).getD 0) (.ofNat i) then _ else none) else none).bind _=none;rw[h,h'];rfl
theorem AH {G:Cx} (hG:Plain G) {K:KP} {g:XG} {a b c d:V} (h:eN K g a b c d) {U:D} {L:Own} (aq:J U K L):bk Tryz.prog G 76 [.agg [a,b,c,d]] U fun v U'=>v= .bool (eB g)/\J U' K L:=by
 have h':=h;obtain⟨hi,ht,hf,ho⟩:=h';refine PS hG Tryz.func76 Z<|Pt 2 Z<|kp aq Z (cz Z Z) (fun U b1 aq=>?_);refine OO 5 Z<|Od aq Z Hz (fun _=>Z) (fun U b2 aq=>?_);refine Ou aq 8 [1,1] Z Z (O Z (QD ht Z Z Z (e:=57) Z) Z (OM 4 Z (bp (rg 4 4++rg 18 23) (fun j t U=>∃(i:Nat) (es:List fC) (ck:Nat) (m:LM),j+i=g.threads.length/\ft 2 es m/\pD g.threads 0 []=pD (g.threads.drop i) i m/\t.get 18=some (.int .i64 (.ofNat i))/\J U K ((b2,.map es ck)::(b1,.row [a,b,c,d] 26 false)::L)) (g.threads.length) ⟨0,[],0,[],Z,.nil,Z,Z,aq⟩ ?_)));clear aq;intro j3 t U ar hI;obtain⟨i,es,ck,m,cl,hm,am,a5,aq⟩:=hI;obtain⟨oo,rfl⟩:=ar.q1 a5 Z;refine Ps 6 Z<|aE Z (fun ao=>?_) (fun ao=>?_)
 ·refine NP 7 Z ?_;obtain⟨M,ac,b0⟩:=cL ao;refine Qu (e:=57) (m:=1) ht ac Z Z Z Z (fun cn b4 a6 b5 a7=>?_);have hr21':=a7;obtain⟨co,rfl,A⟩:=hr21';refine O Z (QF aq a6 Z Z) Z<|OO 7 Z<|O Z (QD A Z Z Z (e:=56) Z) Z<|vQ 1 Z ?_;generalize ap:m=m0 at hm am;clear ap;refine OM 3 Z (bp ([6,7]++rg 25 15) (fun j t U=>∃(u:Nat) (es:List fC) (ck:Nat) (m:LM),j+u=M.length/\ft 2 es m/\rm i M 0 m0=rm i (M.drop u) u m/\t.get 25=some (.int .i64 (.ofNat u))/\J U K ((b2,.map es ck)::(b1,.row [a,b,c,d] 26 false)::L)) (M.length) ⟨0,es,ck,m0,Z,hm,Z,Z,aq⟩ ?_);clear aq;intro j6 t U ar hI;obtain⟨u,es,ck,m,cp,hm,aI,a8,aq⟩:=hI;obtain⟨oo,rfl⟩:=ar.q1 a8 Z;refine Ps 6 Z<|aE Z (fun aY=>?_) (fun aY=>?_)
  ·refine NP 7 Z ?_;obtain⟨a0,Q,b6⟩:=cL aY;refine Qu (e:=56) (m:=5) A Q Z Z Z Z (fun cv b7 a9 b8 bb=>?_);obtain rfl:=bb;refine O Z (QG aq a9 Z Z) Z<|kp aq Z (QE (cs:=[T,T,T,T,T])) (fun U b3 aq=>?_);refine vQ 1 Z<|bO aq Z (QH Z Z Z aq.g0 (m:=5) Z Z (cells':=[_,_,_,_,_]) Z) Z (fun U aq=>?_);refine OO 4 Z<|O Z (QC Z aq.g0 (n:=5) (vs:=[_,_,_,_,_]) Z) Z<|bf Z (Qz Z Z Z) (fun _=>Z) (kj hG _ aq) (fun U aq=>?_);refine Pv 2 Z<|aE Z (fun a1=>?_) (fun a1=>?_)
   ·refine ai Z (PZ 4 Z (O Z (Qy (places:=[(0,1),(1,1)]) (zero:=[T,T]) (cs:=[_,_]) Z) Z<|P3 aq 2 [1,0] Z Z<|G8 vx hm aq (k:=[_,_]) Z Z Z Z Z Z Z (fun U es ck aq hm=>?_)));replace hm:=(show ft 2 es (p8 m [Int.ofNat (i+1),Int.ofNat u] a0.loc) from by rw[<-bg (i:=i) (by have:=ht.bG;omega)];exact hm);refine af<|aJ<|PW 4 Z ?_;have aq:=aq.pop;refine aO ⟨j6-1,by omega,oF,u+1,es,ck,_,by omega,hm,by rw[aI,cR Q];show rm i _ (u+1) (wL i m u a0)=_;unfold wL;rw[a1];rfl,cI<|bg (by have:=A.bG;omega),aq⟩
   refine aG<|aJ<|PW 4 Z ?_;have aq:=aq.pop;refine aO ⟨j6-1,by omega,oF,u+1,es,ck,_,by omega,hm,by rw[aI,cR Q];show rm i _ (u+1) (wL i m u a0)=_;unfold wL;rw[a1];rfl,cI<|bg (by have:=A.bG;omega),aq⟩
  refine OL 3 Z<|aT<|aJ<|PW 4 Z<|aO ⟨j3-1,by omega,oF,i+1,es,ck,m,by omega,hm,by rw[am,cR ac];show pD _ (i+1) (rm i M 0 m0)=_;rw[aI,fO<|bC aY];rfl,cI<|bg (by have:=ht.bG;omega),aq⟩
 refine OL 3 Z<|aT<|OU aq 5 [3,1] Z Z<|O Z (QD ho Z Z Z (e:=74) Z) Z<|vQ 1 Z ?_;have X:pD g.threads 0 []=m:=by rw[am,fO<|bC ao];rfl
 generalize bt:m=m1 at hm X;clear bt;refine OM 3 Z (bp ([2,8,9,11,12,13]++rg 44 28) (fun j t U=>∃(i:Nat) (es:List fC) (ck:Nat) (m:LM),j+i=g.order.length/\ft 2 es m/\nw g.order 0 m1=nw (g.order.drop i) i m/\t.get 44=some (.int .i64 (.ofNat i))/\J U K ((b2,.map es ck)::(b1,.row [a,b,c,d] 26 false)::L)) (g.order.length) ⟨0,es,ck,m1,Z,hm,Z,Z,aq⟩ ?_);clear aq;intro bv t U ar hI;obtain⟨i,es,ck,m,b9,hm,z,be,aq⟩:=hI;obtain⟨oo,rfl⟩:=ar.q1 be Z;refine Ps 6 Z<|aE Z (fun a2=>?_) (fun a2=>?_)
 ·refine NP 7 Z ?_;obtain⟨R,C,ca⟩:=cL a2;refine Qu (e:=74) (m:=1) ho C Z Z Z Z (fun cx cb bi cc bl=>?_);have hr47':=bl;obtain⟨c0,rfl,W⟩:=hr47';refine O Z (QF aq bi Z Z) Z<|OO 7 Z<|O Z (QD W Z Z Z (e:=67) Z) Z<|vQ 1 Z ?_;generalize ap:m=m0 at hm z;clear ap;refine OM 3 Z (bp ([2,11,12,13]++rg 51 20) (fun j t U=>∃(u:Nat) (es:List fC) (ck:Nat) (m:LM),j+u=R.length/\ft 2 es m/\lQ i R m0=lQ i (R.drop u) m/\t.get 51=some (.int .i64 (.ofNat u))/\J U K ((b2,.map es ck)::(b1,.row [a,b,c,d] 26 false)::L)) (R.length) ⟨0,es,ck,m0,Z,hm,Z,Z,aq⟩ ?_);clear aq;intro bw t U ar hI;obtain⟨u,es,ck,m,ce,hm,E,bm,aq⟩:=hI;obtain⟨oo,rfl⟩:=ar.q1 bm Z;refine Ps 6 Z<|aE Z (fun a3=>?_) (fun a3=>?_)
  ·refine NP 6 Z ?_;obtain⟨aa,F,cg⟩:=cL a3;refine Qu (e:=67) (m:=2) W F Z Z Z Z (fun c1 ch bo ci bs=>?_);obtain rfl:=bs;refine O Z (QG aq bo Z Z) Z<|kp aq Z (QE (cs:=[T,T])) (fun U b3 aq=>?_);refine bO aq Z (QH Z Z Z aq.g0 (m:=2) Z Z (cells':=[_,_]) Z) Z (fun U aq=>?_);refine On 6 Z<|O Z (QC Z aq.g0 (n:=2) (vs:=[_,_]) Z) Z<|O Z (J4 vx hm aq.g1 (k:=[_,_]) Z Z Z) Z<|OO 10 Z<|O Z (cV Z) Z<|ky Z (an Z) (fun ab=>?_) (fun ab=>?_)
   ·refine Px 13 Z<|aw<|aF<|aw<|bz<|aF<|aF<|aw<|bz<|aF<|aw (?_);exact aA Z Z ⟨cB (by unfold eB;rw[show nw g.order 0 (pD g.threads 0 [])=none from by rw[X];exact Kr z C E F<|kA ab]),aq.pop.pop.pop⟩
   refine Pv 6 Z<|aE Z (fun a4=>?_) (fun a4=>?_)
   ·refine PX 6 Z<|aw<|aF<|aw<|bz<|aF<|aF<|aw<|bz<|aF<|aw (?_);exact aA Z Z ⟨cB (by unfold eB;rw[show nw g.order 0 (pD g.threads 0 [])=none from by rw[X];exact Ks z C E F (eV ab)<|bT a4]),aq.pop.pop.pop⟩
   refine aG<|ad<|ai Z<|vQ 1 Z<|O Z (QC Z aq.g0 (n:=2) (vs:=[_,_]) Z) Z<|G7 vx hm aq (k:=[_,_]) Z Z Z Z Z Z Z Z Z (fun U es aq hm=>?_);refine af<|aJ<|PW 4 Z ?_;have aq:=aq.pop;refine aO ⟨bw-1,by omega,oF,u+1,es,ck,_,by omega,hm,by rw[E,cR F];show(bif (gg m aa.ints).isSome then _ else none)=_;rw[show(gg m aa.ints).isSome=true from eV ab];show(bif I ((gg m aa.ints).getD 0) (Int.ofNat i) then _ else none)=_;rw[show I ((gg m aa.ints).getD 0) (Int.ofNat i)=true from bj a4];rfl,cI<|bg (by have:=W.bG;omega),aq⟩
  refine OL 3 Z<|aT<|aJ<|PW 4 Z<|aO ⟨bv-1,by omega,oF,i+1,es,ck,m,by omega,hm,by rw[z,cR C];show(lQ i R m0).bind _=_;rw[E,fO<|bC a3];rfl,cI<|bg (by have:=ho.bG;omega),aq⟩
 refine OL 3 Z<|aT<|Pt 3 Z<|O Z (J3 vx hm aq.g0 Z Z Z Z) Z<|Px 5 Z ?_;exact aA Z Z ⟨cB (by unfold eB;rw[show nw g.order 0 (pD g.threads 0 [])=some m from by rw[X];exact by rw[z,fO<|bC a2];rfl]),aq.pop.pop⟩
theorem EJ {G:Cx} (u:Plain G) {K:KP} {l:List db} {v:V} (h:bR K 5 iU l v) {U:D} {L:Own} (aq:J U K L):bk Tryz.prog G 109 [v] U fun v U'=>v= .bool (bU 14 (.ofNat l.length))/\J U' K L:=by
 refine PS u Tryz.func109 Z<|Pt 8 Z<|O Z (QD h Z Z Z (e:=56) Z) Z<|Px 5 Z ?_;exact aA Z Z ⟨Z,aq⟩
theorem Az {G:Cx} (W:Plain G) {K:KP} {l:List (List db)} {v:V} {p:List db->Bool} (h:bR K 1 (RL K 5 iU) l v) {U:D} {L:Own} (aq:J U K L)
  (C:∀x u U L,J U K L->RL K 5 iU x [u]->bk Tryz.prog G 109 [u] U fun v U'=>v= .bool (p x)/\J U' K L):bk Tryz.prog G 161 [v,.func 109 [] []] U fun v U'=>v= .int .i64 (tS p l 0)/\J U' K L:=by
 refine PS W Tryz.func161 Z<|OI 9 Z<|O Z (QD h Z Z Z (e:=57) Z) Z<|OM 4 Z ?_;obtain⟨LL1,aq,hLL1⟩:=aq.named;refine bp ([4,5]++rg 8 11) (fun j t U=>∃(i:Nat),j+i=l.length/\tS p l 0=tS p (l.drop i) i/\t.get 8=some (.int .i64 (.ofNat i))/\J U K LL1) (l.length) ⟨0,Z,Z,Z,aq⟩ ?_;clear aq;intro X t U ar hI;obtain⟨i,hj,he,Q,aq⟩:=hI;subst hLL1;obtain⟨oo,rfl⟩:=ar.q1 Q Z;refine Ps 6 Z<|aE Z (fun R=>?_) (fun R=>?_)
 ·refine NP 15 Z ?_;obtain⟨E,z,aa⟩:=cL R;refine Qu (e:=57) (m:=1) h z Z Z Z Z (fun ao ab M ac A=>?_);have hr14':=A;obtain⟨ap,rfl,am⟩:=hr14';refine O Z (QF aq M Z Z) Z<|bf Z (Qz Z Z Z) (fun _=>Z) (C E _ _ _ aq A) (fun U aq=>?_);refine Pv 2 Z<|aE Z (fun F=>?_) (fun F=>?_)
  ·refine PX 7 Z<|aF<|aw<|bz<|aF<|aw (?_);exact aA Z Z ⟨cJ (by symm;rw[he,cR z];show(bif p E then _ else _)=_;rw[F];rfl),aq⟩
  refine aG<|aJ<|PW 4 Z<|aO ⟨X-1,by omega,oF,i+1,by omega,by rw[he,cR z];show(bif p E then _ else _)=_;rw[F];rfl,cI<|bg (by have:=h.bG;omega),aq⟩
 refine OL 3 Z<|aT<|PX 6 Z ?_;exact aA Z Z ⟨cJ (by symm;rw[he,fO<|bC R];rfl),aq⟩
theorem vk {G:Cx} (z:Plain G) {K:KP} {l:List (List db)} {v:V} (h:bR K 1 (RL K 5 iU) l v) {U:D} {L:Own} (aq:J U K L):bk Tryz.prog G 108 [v,.func 109 [] []] U fun v U'=>v= .bool (l.any fun x=>bU 14 (.ofNat x.length))/\J U' K L:=by
 refine PS z Tryz.func108 Z (Pt 9 Z (bf Z (Qz Z Z Z) (fun _=>Z) (Az z h aq (p:=fun x=>bU 14 (.ofNat x.length)) fun x u U L aq A=>by obtain⟨w,hw,hk⟩:=A;cases hw;exact EJ z hk aq) (fun U aq=>?_)));refine Px 5 Z ?_;exact aA Z Z ⟨cB<|wK _ _,aq⟩
theorem Hv {G:Cx} (A:Plain G) {K:KP} {g:XG} {a b c d:V} (h:eN K g a b c d) {U:D} {L:Own} (aq:J U K L):bk Tryz.prog G 73 [.agg [a,b,c,d]] U fun v U'=>v= .bool (eK g)/\J U' K L:=by
 have h':=h;obtain⟨hi,C,hf,ho⟩:=h';refine PS A Tryz.func73 Z<|Pt 2 Z<|kp aq Z (cz Z Z) (fun U b1 aq=>?_);refine OX aq 7 [1,0] Z Z<|O Z (QD C Z Z Z (e:=57) Z) Z<|vQ 1 Z<|ky Z (an Z) (fun z=>?_) (fun z=>?_)
 ·refine Px 14 Z ?_;exact aA Z Z ⟨cB (by unfold eK;simp only[z,ct,cf]),aq.pop⟩
 refine P3 aq 2 [0,0] Z Z<|O Z (QD hi Z Z Z (e:=2) Z) Z<|PZ 2 Z<|ky Z (an Z) (fun u=>?_) (fun u=>?_)
 ·refine Px 8 Z ?_;exact aA Z Z ⟨cB (by unfold eK;simp only[z,u,ct,cf]),aq.pop⟩
 refine P3 aq 2 [1,0] Z Z<|bf Z (Qz Z Z Z) (fun _=>Z) (vk A C aq) (fun U aq=>?_);refine Px 5 Z ?_;exact aA Z Z ⟨cB (by unfold eK;simp only[z,u,ct,cf]),aq.pop⟩
theorem vz {G:Cx} (hG:Plain G) {K:KP} {g:XG} {a b c d:V} (h:eN K g a b c d) {U:D} {L:Own} (aq:J U K L):bk Tryz.prog G 45 [.agg [a,b,c,d]] U fun v U'=>v= .int .i64 (cd g)/\J U' K L:=by
 have h':=h;obtain⟨hi,ht,hf,ho⟩:=h';refine PS hG Tryz.func45 Z<|Pt 2 Z<|kp aq Z (cz Z Z) (fun U b1 aq=>?_);refine On 6 Z<|O Z (QC Z aq.g0 (n:=4) (vs:=[_,_,_,_]) Z) Z<|bf Z (Qz Z Z Z) (fun _=>Z) (Hv hG h aq) (fun U aq=>?_);refine Pv 2 Z<|aE Z (fun h8=>?_) (fun h8=>?_)
 ·refine Pu 7 Z ?_;exact aA Z Z ⟨cJ (by symm;unfold cd;rw[h8];rfl),aq.pop⟩
 refine Ot aq 7 [2,0] Z Z<|O Z (QD hf Z Z Z (e:=74) Z) Z<|P3 aq 2 [1,0] Z Z<|O Z (QD ht Z Z Z (e:=57) Z) Z<|vQ 1 Z<|ky Z (an Z) (fun C=>?_) (fun C=>?_)
 ·refine OQ 18 Z ?_;exact aA Z Z ⟨cJ (by symm;unfold cd;rw[h8,bT C];rfl),aq.pop⟩
 refine P3 aq 2 [3,0] Z Z<|O Z (QD ho Z Z Z (e:=74) Z) Z<|P3 aq 2 [0,0] Z Z<|O Z (QD hi Z Z Z (e:=2) Z) Z<|Pv 4 Z<|aE Z (fun M=>?_) (fun M=>?_)
 ·refine Pu 7 Z ?_;exact aA Z Z ⟨cJ (by symm;unfold cd;rw[h8,bj C,bT M];rfl),aq.pop⟩
 refine Ot aq 7 [1,0] Z Z<|O Z (QD ht Z Z Z (e:=57) Z) Z<|OM 4 Z ?_;obtain⟨LL1,aq,hLL1⟩:=aq.named;refine bp (rg 2 5++rg 28 46) (fun j t U=>∃(i:Nat),j+i=g.threads.length/\lu g g.threads g.from_ 0=lu g (g.threads.drop i) (g.from_.drop i) i/\t.get 28=some (.int .i64 (.ofNat i))/\J U K LL1) (g.threads.length) ⟨0,Z,Z,Z,aq⟩ ?_;clear aq;intro j6 t U ar hI;obtain⟨i,cb,ac,a2,aq⟩:=hI;subst hLL1;obtain⟨oo,rfl⟩:=ar.q1 a2 Z;refine Ps 6 Z<|aE Z (fun ao=>?_) (fun ao=>?_)
 ·refine NP 7 Z ?_;obtain⟨u,E,a3⟩:=cL ao;refine Qu (e:=57) (m:=1) ht E Z Z Z Z (fun cc bv a4 bw a5=>?_);have hr31':=a5;obtain⟨ce,rfl,X⟩:=hr31';refine O Z (QF aq a4 Z Z) Z<|Ou aq 10 [2,0] Z Z ?_;obtain⟨z,A⟩:=cm (show i<g.from_.length from by rw[dB<|bj C];exact a3);refine Qu (e:=74) (m:=1) hf A Z Z Z Z (fun cg b0 a6 b3 a7=>?_);have hr36':=a7;obtain⟨ch,rfl,a8⟩:=hr36';refine O Z (QF aq a6 Z Z) Z<|O Z (QD a8 Z Z Z (e:=67) Z) Z<|vQ 1 Z<|O Z (QD X Z Z Z (e:=56) Z) Z<|Pv 3 Z<|aE Z (fun Q=>?_) (fun Q=>?_)
  ·refine PX 6 Z<|aw<|aF<|aw<|bz<|aF<|aw (?_);exact aA Z Z ⟨cJ (by symm;unfold cd;rw[h8,bj C,bj M,show lu g g.threads g.from_ 0=false from by rw[ac,cR E,cR A];show(bif I _ _ then _ else false)=false;rw[bT Q];rfl];rfl),aq.pop⟩
  refine OK 5 Z<|O Z (QD X Z Z Z (e:=56) Z) Z<|OM 4 Z ?_;obtain⟨LL2,aq,hLL2⟩:=aq.named;refine bp ([2,5,6]++rg 44 29) (fun j t U=>∃(R:Nat),j+R=u.length/\qo g i u z 0=qo g i (u.drop R) (z.drop R) R/\t.get 44=some (.int .i64 (.ofNat R))/\J U K LL2) (u.length) ⟨0,Z,Z,Z,aq⟩ ?_;clear aq;intro bt t U ar hI;obtain⟨R,b4,aa,a9,aq⟩:=hI;subst hLL2;obtain⟨oo,rfl⟩:=ar.q1 a9 Z;refine Ps 6 Z<|aE Z (fun aY=>?_) (fun aY=>?_)
  ·refine NP 7 Z ?_;obtain⟨am,ab,aI⟩:=cL aY;refine Qu (e:=56) (m:=5) X ab Z Z Z Z (fun ci b5 bb b6 be=>?_);obtain rfl:=be;refine O Z (QG aq bb Z Z) Z<|kp aq Z (QE (cs:=[T,T,T,T,T])) (fun U b2 aq=>?_);refine vQ 1 Z<|bO aq Z (QH Z Z Z aq.g0 (m:=5) Z Z (cells':=[_,_,_,_,_]) Z) Z (fun U aq=>?_);refine ON 3 Z<|aS (l:=zp [0,1,2,3,4,5,6,7,8,9,10,11,12,13,14,15,16,17,18,19,20,21,22]) Y Y<|al Z Z (QC Z aq.g0 (n:=5) (vs:=[_,_,_,_,_]) Z) Z<|P4 aq 2 [0,1] Z Z<|al Z Z (QD hi Z Z Z (e:=2) Z) Z<|cA Z Z (Qz Z Z Z) (fun _=>Z) (AG hG _ _ aq) (fun U aq=>?_);refine⟨aV,?_⟩;refine al Z Z (cV Z) Z<|dZ Z Z (an Z) (fun _=>Z) (fun ap=>?_) (fun ap=>?_)
   ·refine Pz 25 Z<|aF<|aw<|bz<|aF<|aF<|aw<|bz<|aF<|aw (?_);exact aA Z Z ⟨cJ (by symm;unfold cd;rw[h8,bj C,bj M,show lu g g.threads g.from_ 0=false from by rw[ac,cR E,cR A];show(bif I _ _ then(bif qo g i u z 0 then _ else false) else false)=false;rw[bj Q,show qo g i u z 0=false from by rw[aa];obtain⟨W,F⟩:=cm (show R<z.length from by rw[dB<|bj Q];exact aI);rw[cR ab,cR F];show(bif yf g i R am W then _ else false)=false;rw[show yf g i R am W=false from by unfold yf;rw[kA ap];rfl];rfl];rfl];rfl),aq.pop.pop⟩
   refine al Z Z (QC Z aq.g1 (n:=4) (vs:=[_,_,_,_]) Z) Z (P1 3 Z (al Z Z (Qy (places:=[(0,1),(1,1)]) (zero:=[T,T]) (cs:=[_,_]) Z) Z<|P4 aq 3 [2,1] Z Z<|Qv (e:=74) (m:=1) hf A Z Z Z Z Z (fun ck b7 bi b8 bl=>?_)));have hr64':=bl;obtain⟨cl,rfl,bm⟩:=hr64';refine al Z Z (QF aq bi Z Z) Z<|wQ 1 Z ?_;obtain⟨W,F⟩:=cm (show R<z.length from by rw[dB<|bj Q];exact aI);refine Qv (e:=67) (m:=2) bm F Z Z Z Z Z (fun cn b9 bo ca bs=>?_);obtain rfl:=bs;refine al Z Z (QG aq bo Z Z) Z<|cA Z Z (Qz Z Z Z) (fun _=>Z) (CT hG h _ _ _ _ aq) (fun U aq=>?_);refine⟨aV,?_⟩;refine al Z Z (cV Z) Z<|Py 3 Z<|aE Z (fun a0=>?_) (fun a0=>?_)
   ·refine PX 6 Z<|aF<|aw<|bz<|aF<|aF<|aw<|bz<|aF<|aw (?_);exact aA Z Z ⟨cJ (by symm;unfold cd;rw[h8,bj C,bj M,show lu g g.threads g.from_ 0=false from by rw[ac,cR E,cR A];show(bif I _ _ then(bif qo g i u z 0 then _ else false) else false)=false;rw[bj Q,show qo g i u z 0=false from by rw[aa];rw[cR ab,cR F];show(bif yf g i R am W then _ else false)=false;rw[show yf g i R am W=false from by unfold yf;rw[eV ap,<-bg (i:=i) (by have:=ht.bG;omega)];exact kA a0];rfl];rfl];rfl),aq.pop.pop⟩
   refine aG<|aJ<|PW 4 Z ?_;have aq:=aq.pop;refine aO ⟨bt-1,by omega,oF,R+1,by omega,by rw[aa,cR ab,cR F];show(bif yf g i R am W then _ else false)=_;rw[show yf g i R am W=true from by unfold yf;rw[eV ap,<-bg (i:=i) (by have:=ht.bG;omega)];exact eV a0];rfl,cI<|bg (by have:=X.bG;omega),aq⟩
  refine OL 3 Z<|aT<|aJ<|PW 4 Z<|aO ⟨j6-1,by omega,oF,i+1,by omega,by rw[ac,cR E,cR A];show(bif I _ _ then(bif qo g i u z 0 then _ else false) else false)=_;rw[bj Q,show qo g i u z 0=true from by rw[aa,fO<|bC aY];rfl];rfl,cI<|bg (by have:=ht.bG;omega),aq⟩
 refine OL 3 Z<|aT<|OI 3 Z<|O Z (QC Z aq.g0 (n:=4) (vs:=[_,_,_,_]) Z) Z<|bf Z (Qz Z Z Z) (fun _=>Z) (AH hG h aq) (fun U aq=>?_);refine O Z (cV Z) Z<|Pv 2 Z<|aE Z (fun a1=>?_) (fun a1=>?_)
 ·refine Pu 7 Z ?_;exact aA Z Z ⟨cJ (by symm;unfold cd;rw[h8,bj C,bj M,show lu g g.threads g.from_ 0=true from by rw[ac,fO<|bC ao];rfl,kA a1];rfl),aq.pop⟩
 refine Pu 8 Z ?_;exact aA Z Z ⟨cJ (by symm;unfold cd;rw[h8,bj C,bj M,show lu g g.threads g.from_ 0=true from by rw[ac,fO<|bC ao];rfl,eV a1];rfl),aq.pop⟩
theorem RL.mono {α:Type} {K K':KP} (hk:KP.le K K') {m:Nat} {R:α->List V->Prop} {l:List α} {vs:List V} (h:RL K m R l vs):RL K' m R l vs:=let ⟨v,h1,h2⟩:=h;⟨v,h1,h2.mono hk fun _ _ h=>h⟩
theorem eN.mono {K K':KP} (hk:KP.le K K') {g:XG} {a b c d:V} (h:eN K g a b c d):eN K' g a b c d:=
 ⟨h.init.mono hk fun _ _ h=>h,h.threads.mono hk fun _ _ h=>h.mono hk,h.from_.mono hk fun _ _ h=>h.mono hk,h.order.mono hk fun _ _ h=>h.mono hk⟩
theorem zk {G:Cx} (F:Plain G) {K:KP} {l:List Int} {v:V} (h:bR K 1 dy l v) (hn:l.length<=1048576) {U:D} {L:Own} (aq:J U K L):bk Tryz.prog G 49 [v] U fun u U'=>∃M,cQ 1 2 dy l u M/\J U' K (M++L):=by
 have h0:=h;rcases h0 with ⟨rfl,rfl⟩ | ⟨b,off,c,cells,e,ro,rfl,_⟩
 ·refine PS F Tryz.func49 Z<|PX 20 Z ?_;exact aA Z Z ⟨[],.inl ⟨Z,Z,Z⟩,aq⟩
 refine PS F Tryz.func49 Z<|Pt 17 Z<|gT aq Z (bY (e:=2) (m:=1) (z:=[T]) (cs:=[]) Y Y Y Y (by rfl)) (fun _=>Z) (fun U b1 aq=>?_);refine vQ 1 Z<|n9 (R:=dy) (m:=1) (e:=2) aq h dy.leaf hn (by simp) (by decide) (.inl Z) Z Z Z Z Z Y Y Y Z Z (fun _=>Z) (fun U Q X news W aq A C E=>?_);refine Px 4 Z ?_;exact aA Z Z ⟨[(Q,.row ([]++news) W false)],.inr ⟨Q,X,news,W,by rw[nA_],Z,A,C,by simpa using E,hn⟩,aq⟩
theorem JM {G:Cx} (F:Plain G) {K:KP} {l:List db} {v:V} (h:bR K 5 iU l v) (hn:l.length<=1048576) {U:D} {L:Own} (aq:J U K L):bk Tryz.prog G 158 [v] U fun u U'=>∃M,cQ 5 56 iU l u M/\J U' K (M++L):=by
 have h0:=h;rcases h0 with ⟨rfl,rfl⟩ | ⟨b,off,c,cells,e,ro,rfl,_⟩
 ·refine PS F Tryz.func158 Z<|PX 20 Z ?_;exact aA Z Z ⟨[],.inl ⟨Z,Z,Z⟩,aq⟩
 refine PS F Tryz.func158 Z<|Pt 17 Z<|gT aq Z (bY (e:=56) (m:=5) (z:=[T,T,T,T,T]) (cs:=[]) Y Y Y Y (by rfl)) (fun _=>Z) (fun U b1 aq=>?_);refine vQ 1 Z<|n9 (R:=iU) (m:=5) (e:=56) aq h iU.leaf hn (by simp) (by decide) (.inl Z) Z Z Z Z Z Y Y Y Z Z (fun _=>Z) (fun U Q X news W aq A C E=>?_);refine Px 4 Z ?_;exact aA Z Z ⟨[(Q,.row ([]++news) W false)],.inr ⟨Q,X,news,W,by rw[nA_],Z,A,C,by simpa using E,hn⟩,aq⟩
theorem JN {G:Cx} (F:Plain G) {K:KP} {l:List dw} {v:V} (h:bR K 2 iV l v) (hn:l.length<=1048576) {U:D} {L:Own} (aq:J U K L):bk Tryz.prog G 159 [v] U fun u U'=>∃M,cQ 2 67 iV l u M/\J U' K (M++L):=by
 have h0:=h;rcases h0 with ⟨rfl,rfl⟩ | ⟨b,off,c,cells,e,ro,rfl,_⟩
 ·refine PS F Tryz.func159 Z<|PX 20 Z ?_;exact aA Z Z ⟨[],.inl ⟨Z,Z,Z⟩,aq⟩
 refine PS F Tryz.func159 Z<|Pt 17 Z<|gT aq Z (bY (e:=67) (m:=2) (z:=[T,T]) (cs:=[]) Y Y Y Y (by rfl)) (fun _=>Z) (fun U b1 aq=>?_);refine vQ 1 Z<|n9 (R:=iV) (m:=2) (e:=67) aq h iV.leaf hn (by simp) (by decide) (.inl Z) Z Z Z Z Z Y Y Y Z Z (fun _=>Z) (fun U Q X news W aq A C E=>?_);refine Px 4 Z ?_;exact aA Z Z ⟨[(Q,.row ([]++news) W false)],.inr ⟨Q,X,news,W,by rw[nA_],Z,A,C,by simpa using E,hn⟩,aq⟩
theorem Ht {G:Cx} (hG:Plain G) {K:KP} {ls:List (List db)} {v:V} (h:bR K 1 (RL K 5 iU) ls v) (hn:ls.length<=1000) (aa:∀l∈ls,l.length<=1048576) {U:D} {L:Own} (aq:J U K L):
  bk Tryz.prog G 104 [v] U fun u U'=>∃bo us M,u= .slice bo 0 ls.length (.known ls.length)/\fH 5 56 iU ls us M/\J U' K (M++(bo,.row us 57 false)::L):=by
 refine PS hG Tryz.func104 Z<|Pt 8 Z<|O Z (QD h Z Z Z (e:=57) Z) Z<|gT aq Z (k9 (n:=ls.length) (e:=57) (w:=24) (z:=[.ax]) Z Y Y Y Z Z B B) (fun _=>Z) (fun U bo aq=>?_);rw[ph] at aq;refine On 7 Z (O Z (QD h Z Z Z (e:=57) Z) Z (OM 4 Z (bp ([4,5]++rg 11 11) (fun j t U=>∃(i:Nat) (us:List V) (M:Own),j+i=ls.length/\fH 5 56 iU (ls.take i) us M/\t.get 11=some (.int .i64 (.ofNat i))/\J U K (M++(bo,.row (us++List.replicate (ls.length-i) V.ax) 57 false)::L)) (ls.length) ⟨0,[],[],Z,.nil,Z,aq⟩ ?_)));clear aq;intro j3 t U ar hI;obtain⟨i,us,M,ap,hO,F,aq⟩:=hI;obtain⟨oo,rfl⟩:=ar.q1 F Z;refine Ps 6 Z<|aE Z (fun C=>?_) (fun C=>?_)
 ·refine NP 7 Z ?_;obtain⟨aI,A,E⟩:=cL C;refine Qu (e:=57) (m:=1) h A Z Z Z Z (fun aY am Q ao R=>?_);have hr14':=R;obtain⟨a0,rfl,W⟩:=hr14';refine O Z (QF aq Q Z Z) Z<|Pw 8 Z<|cH Z (Qz Z Z Z) (fun _=>Z) (JM hG W (aa _<|gB_ A) aq) ?_;rintro X U ⟨ab,hM19,aq⟩;refine O Z (eo (e:=57) (m:=1) Z Y Z Z E) Z ?_;rw[<-lQ_] at aq;have ac:us.length=i:=by rw[hO.length,lT_];omega
  refine iO Z (gR Z Z hM19.leaf.1 aq.Iy (m:=1) Y Z (by rw[lA_,List.length_replicate];omega)<|ah hM19.leaf.2 Z) Z ?_;rw[FL ac E];replace aq:=aq.En (.row (us++[X]++List.replicate (ls.length-(i+1)) V.ax) 57 false);refine af<|aJ<|PW 4 Z<|aO ⟨j3-1,by omega,oF,i+1,us++[X],ab++M,by omega,by rw[List.take_add_one,A];exact .snoc hO hM19,cI<|bg (by have:=h.bG;omega),aq⟩
 refine OL 3 Z<|aT<|PX 7 Z ?_;exact aA Z Z ⟨bo,us,M,Z,by rwa[tL_<|bC C] at hO,by rwa[show ls.length-i=0 from by have:=bC C;omega,List.replicate_zero,List.append_nil] at aq⟩
theorem zl {G:Cx} (hG:Plain G) {K:KP} {ls:List (List dw)} {v:V} (h:bR K 1 (RL K 2 iV) ls v) (hn:ls.length<=1000) (aa:∀l∈ls,l.length<=1048576) {U:D} {L:Own} (aq:J U K L):
  bk Tryz.prog G 105 [v] U fun u U'=>∃bo us M,u= .slice bo 0 ls.length (.known ls.length)/\fH 2 67 iV ls us M/\J U' K (M++(bo,.row us 74 false)::L):=by
 refine PS hG Tryz.func105 Z<|Pt 8 Z<|O Z (QD h Z Z Z (e:=74) Z) Z<|gT aq Z (k9 (n:=ls.length) (e:=74) (w:=24) (z:=[.ax]) Z Y Y Y Z Z B B) (fun _=>Z) (fun U bo aq=>?_);rw[ph] at aq;refine On 7 Z (O Z (QD h Z Z Z (e:=74) Z) Z (OM 4 Z (bp ([4,5]++rg 11 11) (fun j t U=>∃(i:Nat) (us:List V) (M:Own),j+i=ls.length/\fH 2 67 iV (ls.take i) us M/\t.get 11=some (.int .i64 (.ofNat i))/\J U K (M++(bo,.row (us++List.replicate (ls.length-i) V.ax) 74 false)::L)) (ls.length) ⟨0,[],[],Z,.nil,Z,aq⟩ ?_)));clear aq;intro j3 t U ar hI;obtain⟨i,us,M,ap,hO,F,aq⟩:=hI;obtain⟨oo,rfl⟩:=ar.q1 F Z;refine Ps 6 Z<|aE Z (fun C=>?_) (fun C=>?_)
 ·refine NP 7 Z ?_;obtain⟨aI,A,E⟩:=cL C;refine Qu (e:=74) (m:=1) h A Z Z Z Z (fun aY am Q ao R=>?_);have hr14':=R;obtain⟨a0,rfl,W⟩:=hr14';refine O Z (QF aq Q Z Z) Z<|Pw 8 Z<|cH Z (Qz Z Z Z) (fun _=>Z) (JN hG W (aa _<|gB_ A) aq) ?_;rintro X U ⟨ab,hM19,aq⟩;refine O Z (eo (e:=74) (m:=1) Z Y Z Z E) Z ?_;rw[<-lQ_] at aq;have ac:us.length=i:=by rw[hO.length,lT_];omega
  refine iO Z (gR Z Z hM19.leaf.1 aq.Iy (m:=1) Y Z (by rw[lA_,List.length_replicate];omega)<|ah hM19.leaf.2 Z) Z ?_;rw[FL ac E];replace aq:=aq.En (.row (us++[X]++List.replicate (ls.length-(i+1)) V.ax) 74 false);refine af<|aJ<|PW 4 Z<|aO ⟨j3-1,by omega,oF,i+1,us++[X],ab++M,by omega,by rw[List.take_add_one,A];exact .snoc hO hM19,cI<|bg (by have:=h.bG;omega),aq⟩
 refine OL 3 Z<|aT<|PX 7 Z ?_;exact aA Z Z ⟨bo,us,M,Z,by rwa[tL_<|bC C] at hO,by rwa[show ls.length-i=0 from by have:=bC C;omega,List.replicate_zero,List.append_nil] at aq⟩
def Mj (g:XG):Prop:=g.init.length<=1000/\g.threads.length<=1000/\(∀l∈g.threads,l.length<=1048576)/\g.from_.length<=1000/\(∀l∈g.from_,l.length<=1048576)/\g.order.length<=1000/\(∀l∈g.order,l.length<=1048576)
structure O5 (g:XG) (u1:V) (M1:Own) (b2:Nat) (us2:List V) (M2:Own) (b3:Nat) (us3:List V) (M3:Own) (b4:Nat) (us4:List V) (M4:Own):Prop where
 init:cQ 1 2 dy g.init u1 M1
 threads:fH 5 56 iU g.threads us2 M2
 from_:fH 2 67 iV g.from_ us3 M3
 order:fH 2 67 iV g.order us4 M4
abbrev Pr (M1:Own) (b2:Nat) (us2:List V) (M2:Own) (b3:Nat) (us3:List V) (M3:Own) (b4:Nat) (us4:List V) (M4:Own) (L:Own):Own:=
 M4++(b4,.row us4 74 false)::(M3++(b3,.row us3 74 false)::(M2++(b2,.row us2 57 false)::(M1++L)))
abbrev PM (g:XG) (u1:V) (b2 b3 b4:Nat):List V:=[u1,.slice b2 0 g.threads.length (.known g.threads.length),.slice b3 0 g.from_.length (.known g.from_.length),.slice b4 0 g.order.length (.known g.order.length)]
theorem xO {G:Cx} (z:Plain G) {K:KP} {g:XG} {a b c d:V} (h:eN K g a b c d) (u:Mj g) {U:D} {L:Own} (aq:J U K L):
  bk Tryz.prog G 69 [.agg [a,b,c,d]] U fun v U'=>∃W M1 F A X M C M3 Q E M4,v= .agg (PM g W F M Q)/\O5 g W M1 F A X M C M3 Q E M4/\J U' K (Pr M1 F A X M C M3 Q E M4 L):=by
 have h':=h;obtain⟨hi,ht,hf,R⟩:=h';refine PS z Tryz.func69 Z<|Pt 2 Z<|kp aq Z (cz Z Z) (fun U b1 aq=>?_);refine kp aq Z (QE (cs:=[.ax,.ax,.ax,.ax])) (fun U F aq=>?_);refine ON 3 Z (aS (l:=[(0,[]),(1,[]),(3,[]),(4,[]),(6,[]),(7,[]),(9,[]),(10,[]),(2,[4,7,10]),(5,[7,10]),(8,[10]),(11,[]),(12,[]),(13,[])]) Y Y<|P4 aq 8 [0,1,1,1,2,1,3,1] Z Z<|jg Z Z (Qz Z Z Z) (fun _=>Z) (zk z hi (by have:=u.1;omega) aq) ?_);rintro u5 U ⟨M5,hM5,aq⟩;refine⟨(bB (bN Z Z Z Z Z (QB Z aq.aQ.pop.g0 Z) ht.dX)<|bB (bN Z Z Z Z Z (QB Z aq.aQ.pop.g0 Z) hf.dX)<|bB (bN Z Z Z Z Z (QB Z aq.aQ.pop.g0 Z) R.dX) aV),?_⟩;refine jg Z Z (Qz Z Z Z) (fun _=>Z) (Ht z ht u.2.1 u.2.2.1 aq) ?_;rintro _ U ⟨M,ac,M8,rfl,hO8,aq⟩;refine⟨(bB (bN Z Z Z Z Z (QB Z aq.aQ.pop.aQ.pop.g0 Z) hf.dX)<|bB (bN Z Z Z Z Z (QB Z aq.aQ.pop.aQ.pop.g0 Z) R.dX) aV),?_⟩;refine jg Z Z (Qz Z Z Z) (fun _=>Z) (zl z hf u.2.2.2.1 u.2.2.2.2.1 aq) ?_;rintro _ U ⟨Q,aa,am,rfl,hO11,aq⟩;refine⟨(bB (bN Z Z Z Z Z (QB Z aq.aQ.pop.aQ.pop.aQ.pop.g0 Z) R.dX) aV),?_⟩;refine jg Z Z (Qz Z Z Z) (fun _=>Z) (zl z R u.2.2.2.2.2.1 u.2.2.2.2.2.2 aq) ?_;rintro _ U ⟨b5,ab,ao,rfl,hO14,aq⟩;refine⟨aV,?_⟩;refine al Z Z (bF (places:=[(0,1),(1,1),(2,1),(3,1)]) (zero:=[.ax,.ax,.ax,.ax]) (cs:=[_,_,_,_]) Y Y Y (bD Z Z hM5.leaf.1 Z<|bD Z Z Z Z<|bD Z Z Z Z<|bD Z Z Z Z bJ) Y) Z<|gD aq (.cM (.there (.cM (.there (.cM (.there (.cM .here))))))) Z Z (QH Z Z Z aq.aQ.pop.aQ.pop.aQ.pop.aQ.g0 (m:=4) Z (ah hM5.leaf.2 Z) (cells':=[_,_,_,_]) Z) Z (fun U aq=>?_);refine⟨aV,?_⟩;refine Pz 3 Z ?_;exact eL Z Z aq.aQ.pop.aQ.pop.aQ.pop.aQ.g0 (m:=4) Y Z ⟨_,_,_,_,_,_,_,_,_,_,_,Z,⟨hM5,hO8,hO11,hO14⟩,aq.sub<|dH (.cons_cons _<|dH (.cons_cons _<|dH (.cons_cons _<|dH (.cons _ (.cons _ (.refl _))))))⟩
theorem tt {G:Cx} (hG:Plain G) {K:KP} {g:XG} {a b c d:V} (h:eN K g a b c d) (E:∀l∈g.order,l.length<=1000000) (loc:Int) {U:D} {L:Own} (aq:J U K L):
  bk Tryz.prog G 42 [.agg [a,b,c,d],.int .i64 loc] U fun v U'=>∃M,cQ 2 67 iV (cu g loc) v M/\J U' K (M++L):=by
 have h':=h;obtain⟨hi,ht,hf,ho⟩:=h';refine PS hG Tryz.func42 Z<|Pt 2 Z<|kp aq Z (cz Z Z) (fun U b1 aq=>?_);refine On 6 Z<|O Z (QC Z aq.g0 (n:=4) (vs:=[_,_,_,_]) Z) Z<|bf Z (Qz Z Z Z) (fun _=>Z) (vz hG h aq) (fun U aq=>?_);refine vQ 1 Z<|ky Z (an Z) (fun F=>?_) (fun F=>?_)
 ·refine OQ 20 Z ?_;exact aA Z Z ⟨[],.inl ⟨po<|bT F,Z,Z⟩,aq.pop⟩
 refine PZ 3 Z<|ky Z (an Z) (fun A=>?_) (fun A=>?_)
 ·refine OQ 16 Z ?_;exact aA Z Z ⟨[],.inl ⟨qA A,Z,Z⟩,aq.pop⟩
 refine P3 aq 3 [0,0] Z Z<|O Z (QD hi Z Z Z (e:=2) Z) Z<|Pv 4 Z<|aE Z (fun C=>?_) (fun C=>?_)
 ·obtain⟨ln,rfl⟩:=iQ A;refine Pu 7 Z ?_;exact aA Z Z ⟨[],.inl ⟨qz (by rw[(cK<|sH<|bj F).2.2.2.2.1];exact nZ C),Z,Z⟩,aq.pop⟩
 obtain⟨ln,rfl⟩:=iQ A;refine OK 5 Z (O Z (Qy (places:=[(0,1),(1,1)]) (zero:=[T,T]) (cs:=[_,_]) Z) Z<|gT aq Z (bY (e:=67) (m:=2) (z:=[T,T]) (cs:=[_,_]) Y Y Y Y<|bD Z Z Z Z bJ) (fun _=>Z) (fun U b2 aq=>?_));refine P3 aq 3 [3,1] Z Z ?_;obtain⟨aa,u⟩:=cm (show ln<g.order.length from by rw[(cK<|sH<|bj F).2.2.2.2.1];exact n8 C);refine Qu (e:=74) (m:=1) ho u Z Z Z Z (fun ar ao Q ap W=>?_);have hr25':=W;obtain⟨aI,rfl,X⟩:=hr25';refine O Z (QF aq Q Z Z) Z (n9 (R:=iV) (m:=2) (e:=67) (len1:=1) aq X iV.leaf (by have:=E _ (gB_ u);omega) Z (by decide) (.inl Z) Z Z Z Z Z Y Y Y Z Z (fun _=>Z) (fun U b9 c9 news e9 aq ab ac am=>?_));refine Px 4 Z ?_;exact aA Z Z ⟨[(b9,cG.row ([V.int .i64 0,V.int .i64 (.ofNat ln)]++news) e9 false)],by rw[ez (bj F) u];exact qf (l1:=[⟨0,.ofNat ln⟩]) (fM:=[V.int .i64 0,V.int .i64 (.ofNat ln)]) Z (fun i x hx=>by cases i with | zero=>(cases hx;rfl) | succ i=>(simp at hx)) ab ac Z am (by show 1+aa.length<=1048576;have:=E _ (gB_ u);omega),aq.sub (.cons_cons _ (.cons _ (.refl _)))⟩
theorem CU {G:Cx} (z:Plain G) {K:KP} (e:db) {U:D} {L:Own} (aq:J U K L):bk Tryz.prog G 117 [.agg<|ints e.ints] U fun v U'=>v= .bool (dD e)/\J U' K L:=by
 refine PS z Tryz.func117 Z<|Pt 2 Z<|kp aq Z (cz Z Z) (fun U b1 aq=>?_);refine OX aq 8 [0,0] Z Z<|ky Z (an Z) (fun u=>?_) (fun u=>?_)
 ·refine Px 8 Z ?_;exact aA Z Z ⟨cB (by unfold dD;simp only[u,ct,cf]),aq.pop⟩
 refine PF aq 8 [0,0] Z Z ?_;exact aA Z Z ⟨cB (by unfold dD;simp only[u,ct,cf]),aq.pop⟩
theorem ml {G:Cx} (z:Plain G) {K:KP} (e:db) {U:D} {L:Own} (aq:J U K L):bk Tryz.prog G 96 [.agg<|ints e.ints] U fun v U'=>v= .bool (bq e)/\J U' K L:=by
 refine PS z Tryz.func96 Z<|Pt 2 Z<|kp aq Z (cz Z Z) (fun U b1 aq=>?_);refine OX aq 8 [0,0] Z Z<|ky Z (an Z) (fun u=>?_) (fun u=>?_)
 ·refine Px 8 Z ?_;exact aA Z Z ⟨cB (by unfold bq;simp only[u,ct,cf]),aq.pop⟩
 refine PF aq 8 [0,0] Z Z ?_;exact aA Z Z ⟨cB (by unfold bq;simp only[u,ct,cf]),aq.pop⟩
theorem tv {G:Cx} (hG:Plain G) {K:KP} {g:XG} {a b c d:V} (h:eN K g a b c d) (th ix:Int) {U:D} {L:Own} (aq:J U K L):bk Tryz.prog G 97 [.agg [a,b,c,d],.agg [.int .i64 th,.int .i64 ix]] U fun v U'=>v= .tuple [.agg<|ints (AP<|fh g ⟨th,ix⟩).ints,.bool (fh g ⟨th,ix⟩).isSome]/\J U' K L:=by
 have h':=h;obtain⟨hi,X,hf,ho⟩:=h';refine PS hG Tryz.func97 Z<|Pt 2 Z<|kp aq Z (cz Z Z) (fun U b1 aq=>?_);refine kp aq Z (cz Z Z) (fun U b2 aq=>?_);refine kp aq Z (QE (cs:=[T,T,T,T,T])) (fun U b3 aq=>?_);refine OW aq 11 [0,1] Z Z<|aE Z (fun W=>?_) (fun W=>?_)
 ·refine OU aq 6 [1,1] Z Z<|ky Z (an Z) (fun A=>?_) (fun A=>?_)
  ·refine OO 12 Z (O Z (Qy (places:=[(0,1),(1,1),(2,1),(3,1),(4,1)]) (zero:=[T,T,T,T,T]) (cs:=[_,_,_,_,_]) Z) Z<|bO aq Z (QH Z Z Z aq.g0 (m:=5) Z Z (cells':=[_,_,_,_,_]) Z) Z (fun U aq=>?_));refine Px 4 Z<|aw<|aw (?_);exact br Z Z aq.g0 (m:=5) Y Z Z ⟨by rw[qI A];rfl,aq.pop.pop.pop⟩
  refine P3 aq 4 [1,1,0,2] Z Z<|O Z (QD hi Z Z Z (e:=2) Z) Z<|Pv 4 Z<|aE Z (fun F=>?_) (fun F=>?_)
  ·obtain⟨ixn,rfl⟩:=iQ A;obtain rfl:th=0:=by rw[dF] at W;simpa using W
   refine Pt 2 Z (O Z (Qy (places:=[(0,1),(1,1),(2,1),(3,1),(4,1)]) (zero:=[T,T,T,T,T]) (cs:=[_,_,_,_,_]) Z) Z<|bO aq Z (QH Z Z Z aq.g0 (m:=5) Z Z (cells':=[_,_,_,_,_]) Z) Z (fun U aq=>?_));refine Px 4 Z<|aw<|aw (?_);exact br Z Z aq.g0 (m:=5) Y Z Z ⟨by rw[show fh g _=none from by show(g.init[ixn]?).map _=_;rw[gN_<|nZ F];rfl];rfl,aq.pop.pop.pop⟩
  obtain⟨ixn,rfl⟩:=iQ A;obtain rfl:th=0:=by rw[dF] at W;simpa using W
  refine OJ 3 Z<|aS (l:=zp [0,1,2,3,4,5,6,7,8,9,10]) Y Y<|P4 aq 6 [1,1,0,2,1,1] Z Z ?_;obtain⟨a9,C⟩:=cm (n8 F);refine Qv (e:=2) (m:=1) hi C Z Z Z Z Z (fun bb a1 aa a2 ab=>?_);obtain rfl:=ab;refine al Z Z (QF aq aa Z Z) Z (al Z Z (Qy (places:=[(0,1),(1,1),(2,1),(3,1),(4,1)]) (zero:=[T,T,T,T,T]) (cs:=[_,_,_,_,_]) Z) Z<|kb aq Z Z (QH Z Z Z aq.g0 (m:=5) Z Z (cells':=[_,_,_,_,_]) Z) Z (fun U aq=>?_));refine⟨aV,?_⟩;refine OT 5 Z ?_;exact br Z Z aq.g0 (m:=5) Y Z Z ⟨by rw[show fh g _=some _ from by show(g.init[ixn]?).map _=_;rw[C];rfl];rfl,aq.pop.pop.pop⟩
 refine OJ 3 Z<|ak<|aS (l:=zp [0,1,2,3,4,5,6,7,8,9,10,11,12,13,14,15,16,17,18,19,20,21,22,23,24,25,26,27,28]) Y Y<|P4 aq 3 [0,1] Z Z<|dZ Z Z (an Z) (fun _=>Z) (fun M=>?_) (fun M=>?_)
 ·refine OS 29 Z (ai Z (O Z (Qy (places:=[(0,1),(1,1),(2,1),(3,1),(4,1)]) (zero:=[T,T,T,T,T]) (cs:=[_,_,_,_,_]) Z) Z<|bO aq Z (QH Z Z Z aq.g0 (m:=5) Z Z (cells':=[_,_,_,_,_]) Z) Z (fun U aq=>?_)));refine OQ 5 Z ?_;exact br Z Z aq.g0 (m:=5) Y Z Z ⟨by rw[tL M];rfl,aq.pop.pop.pop⟩
 refine P4 aq 4 [0,1,1,2] Z Z<|al Z Z (QD X Z Z Z (e:=57) Z) Z<|P1 2 Z<|dZ Z Z (an Z) (fun _=>Z) (fun z=>?_) (fun z=>?_)
 ·refine OS 21 Z (ai Z (O Z (Qy (places:=[(0,1),(1,1),(2,1),(3,1),(4,1)]) (zero:=[T,T,T,T,T]) (cs:=[_,_,_,_,_]) Z) Z<|bO aq Z (QH Z Z Z aq.g0 (m:=5) Z Z (cells':=[_,_,_,_,_]) Z) Z (fun U aq=>?_)));refine OQ 5 Z ?_;exact br Z Z aq.g0 (m:=5) Y Z Z ⟨by rw[BD z];rfl,aq.pop.pop.pop⟩
 refine P4 aq 4 [1,1] Z Z<|dZ Z Z (an Z) (fun _=>Z) (fun Q=>?_) (fun Q=>?_)
 ·refine OS 16 Z (ai Z (O Z (Qy (places:=[(0,1),(1,1),(2,1),(3,1),(4,1)]) (zero:=[T,T,T,T,T]) (cs:=[_,_,_,_,_]) Z) Z<|bO aq Z (QH Z Z Z aq.g0 (m:=5) Z Z (cells':=[_,_,_,_,_]) Z) Z (fun U aq=>?_)));refine OQ 5 Z ?_;exact br Z Z aq.g0 (m:=5) Y Z Z ⟨by rw[qI Q];rfl,aq.pop.pop.pop⟩
 refine P4 aq 7 [1,1,1,2,0,1] Z Z ?_;obtain⟨tn,rfl⟩:=iQ M;obtain⟨tm,rfl⟩:=FR W;obtain⟨ixn,rfl⟩:=iQ Q;obtain⟨be,u⟩:=cm (show tm<g.threads.length from by have:=mK z;omega);refine Qv (e:=57) (m:=1) X u Z Z Z Z (cI<|ej (by have:=mK z;have:=X.bG;omega)) (fun bi a3 ac a4 am=>?_);have hr54':=am;obtain⟨bl,rfl,ao⟩:=hr54';refine al Z Z (QF aq ac Z Z) Z<|al Z Z (QD ao Z Z Z (e:=56) Z) Z<|Py 4 Z<|aE Z (fun R=>?_) (fun R=>?_)
 ·refine Pt 2 Z (O Z (Qy (places:=[(0,1),(1,1),(2,1),(3,1),(4,1)]) (zero:=[T,T,T,T,T]) (cs:=[_,_,_,_,_]) Z) Z<|bO aq Z (QH Z Z Z aq.g0 (m:=5) Z Z (cells':=[_,_,_,_,_]) Z) Z (fun U aq=>?_));refine OQ 5 Z ?_;exact br Z Z aq.g0 (m:=5) Y Z Z ⟨by rw[show fh g _=none from by show(g.threads[tm]?).bind _=_;rw[u];exact gN_<|nZ R];rfl,aq.pop.pop.pop⟩
 refine OJ 3 Z<|aS (l:=zp [0,1,2,3,4,5,6,7,8,9,10,11,12]) Y Y<|P4 aq 5 [1,2,0,1] Z Z<|Qv (e:=57) (m:=1) X u Z Z Z Z (cI<|ej (by have:=mK z;have:=X.bG;omega)) (fun bm a5 ap a6 ar=>?_);have hr65':=ar;obtain⟨bo,rfl,aI⟩:=hr65';refine al Z Z (QF aq ap Z Z) Z<|P4 aq 2 [1,1] Z Z ?_;obtain⟨bs,E⟩:=cm (n8 R);refine Qv (e:=56) (m:=5) aI E Z Z Z Z Z (fun bt a7 aY a8 a0=>?_);obtain rfl:=a0;refine al Z Z (QG aq aY Z Z) Z<|kb aq Z Z (QH Z Z Z aq.g0 (m:=5) Z Z (cells':=[_,_,_,_,_]) Z) Z (fun U aq=>?_);refine⟨aV,?_⟩;refine Pz 4 Z ?_;exact br Z Z aq.g0 (m:=5) Y Z Z ⟨by rw[show fh g _=some _ from by show(g.threads[tm]?).bind _=_;rw[u];exact E];rfl,aq.pop.pop.pop⟩
theorem AB {G:Cx} (hG:Plain G) {K:KP} {g:XG} {a b c d:V} (h:eN K g a b c d) (mo:Int) {U:D} {L:Own} (aq:J U K L):bk Tryz.prog G 10 [.agg [a,b,c,d],.int .i64 mo] U fun v U'=>∃q,v= .bool q/\J U' K L:=by
 have h':=h;obtain⟨hi,ht,hf,ho⟩:=h';refine PS hG Tryz.func10 Z<|Pt 2 Z<|kp aq Z (cz Z Z) (fun U b1 aq=>?_);refine OX aq 9 [0,0] Z Z<|O Z (QD hi Z Z Z (e:=2) Z) Z<|O Z (qB Z Z Z Z) Z<|P3 aq 4 [1,0] Z Z<|O Z (QD ht Z Z Z (e:=57) Z) Z<|O Z (qB Z Z Z Z) Z<|P3 aq 5 [2,0] Z Z<|O Z (QD hf Z Z Z (e:=74) Z) Z<|O Z (qB Z Z Z Z) Z<|P3 aq 5 [3,0] Z Z<|O Z (QD ho Z Z Z (e:=74) Z) Z<|O Z (qB Z Z Z Z) Z<|Om 11 Z ?_;obtain⟨LL1,aq,hLL1⟩:=aq.named;refine bp ([5,6]++rg 36 23) (fun j t U=>∃(i:Nat) (m:Int),j+i=g.threads.length/\t.get 5=some (.int .i64 m)/\t.get 6=some (.int .i64 (.ofNat i))/\J U K LL1) (g.threads.length) ⟨0,_,Z,Z,Z,aq⟩ ?_;clear aq;intro j3 t U ar hI;obtain⟨i,m,b2,E,bi,aq⟩:=hI;subst hLL1;obtain⟨oo,rfl⟩:=ar.q2 E bi Z;refine OU aq 6 [1,0] Z Z<|O Z (QD ht Z Z Z (e:=57) Z) Z<|vQ 1 Z<|ky Z (an Z) (fun a4=>?_) (fun a4=>?_)
 ·refine Pv 6 Z<|aE Z (fun bl=>?_) (fun bl=>?_)
  ·refine Oq aq 11 [1,0] Z Z ?_;obtain⟨b3,a5,bv⟩:=cL a4;refine Qu (e:=57) (m:=1) ht a5 Z Z Z Z (fun b4 bw a6 b0 a7=>?_);have hr54':=a7;obtain⟨b5,rfl,a8⟩:=hr54';refine O Z (QF aq a6 Z Z) Z<|O Z (QD a8 Z Z Z (e:=56) Z) Z<|O Z (qB Z Z Z Z) Z<|PY 3 Z<|aJ<|PW 5 Z<|aO ⟨j3-1,by omega,oF,i+1,_,by omega,Z,cI<|bg (by have:=ht.bG;omega),aq⟩
  refine OL 3 Z<|aT<|OH 7 Z ?_;obtain⟨LL2,aq,hLL2⟩:=aq.named;refine bp ([5,7]++rg 59 24) (fun j t U=>∃(i:Nat) (m:Int),j+i=g.from_.length/\t.get 5=some (.int .i64 m)/\t.get 7=some (.int .i64 (.ofNat i))/\J U K LL2) (g.from_.length) ⟨0,_,Z,Z,Z,aq⟩ ?_;clear aq;intro j7 t U ar hI;obtain⟨i,m,bm,E,a2,aq⟩:=hI;subst hLL2;obtain⟨oo,rfl⟩:=ar.q2 E a2 Z;refine OU aq 6 [2,0] Z Z<|O Z (QD hf Z Z Z (e:=74) Z) Z<|vQ 1 Z<|ky Z (an Z) (fun ab=>?_) (fun ab=>?_)
  ·refine Pv 7 Z<|aE Z (fun a3=>?_) (fun a3=>?_)
   ·refine Oq aq 11 [2,0] Z Z ?_;obtain⟨bo,ac,a9⟩:=cL ab;refine Qu (e:=74) (m:=1) hf ac Z Z Z Z (fun bs bb am be ao=>?_);have hr78':=ao;obtain⟨bt,rfl,ap⟩:=hr78';refine O Z (QF aq am Z Z) Z<|O Z (QD ap Z Z Z (e:=67) Z) Z<|O Z (qB Z Z Z Z) Z<|PY 3 Z<|aJ<|PW 5 Z<|aO ⟨j7-1,by omega,oF,i+1,_,by omega,Z,cI<|bg (by have:=hf.bG;omega),aq⟩
   refine OL 3 Z<|aT<|OH 7 Z ?_;obtain⟨LL3,aq,hLL3⟩:=aq.named;refine bp ([5,8]++rg 83 24) (fun j t U=>∃(i:Nat) (m:Int),j+i=g.order.length/\t.get 5=some (.int .i64 m)/\t.get 8=some (.int .i64 (.ofNat i))/\J U K LL3) (g.order.length) ⟨0,_,Z,Z,Z,aq⟩ ?_;clear aq;intro M t U ar hI;obtain⟨i,m,aI,E,Q,aq⟩:=hI;subst hLL3;obtain⟨oo,rfl⟩:=ar.q2 E Q Z;refine OU aq 6 [3,0] Z Z<|O Z (QD ho Z Z Z (e:=74) Z) Z<|vQ 1 Z<|ky Z (an Z) (fun F=>?_) (fun F=>?_)
   ·refine Pv 7 Z<|aE Z (fun R=>?_) (fun R=>?_)
    ·refine Oq aq 11 [3,0] Z Z ?_;obtain⟨aY,u,W⟩:=cL F;refine Qu (e:=74) (m:=1) ho u Z Z Z Z (fun a0 X z aa A=>?_);have hr102':=A;obtain⟨a1,rfl,C⟩:=hr102';refine O Z (QF aq z Z Z) Z<|O Z (QD C Z Z Z (e:=67) Z) Z<|O Z (qB Z Z Z Z) Z<|PY 3 Z<|aJ<|PW 5 Z<|aO ⟨M-1,by omega,oF,i+1,_,by omega,Z,cI<|bg (by have:=ho.bG;omega),aq⟩
    refine OL 3 Z<|aT<|PX 10 Z ?_;exact aA Z Z ⟨_,Z,aq.pop⟩
   refine OR 10 Z<|bc<|aT<|PX 10 Z ?_;exact aA Z Z ⟨_,Z,aq.pop⟩
  refine OR 10 Z<|bc<|aT<|OH 7 Z ?_;obtain⟨LL4,aq,hLL4⟩:=aq.named;refine bp ([5,8]++rg 83 24) (fun j t U=>∃(i:Nat) (m:Int),j+i=g.order.length/\t.get 5=some (.int .i64 m)/\t.get 8=some (.int .i64 (.ofNat i))/\J U K LL4) (g.order.length) ⟨0,_,Z,Z,Z,aq⟩ ?_;clear aq;intro M t U ar hI;obtain⟨i,m,aI,E,Q,aq⟩:=hI;subst hLL4;obtain⟨oo,rfl⟩:=ar.q2 E Q Z;refine OU aq 6 [3,0] Z Z<|O Z (QD ho Z Z Z (e:=74) Z) Z<|vQ 1 Z<|ky Z (an Z) (fun F=>?_) (fun F=>?_)
  ·refine Pv 7 Z<|aE Z (fun R=>?_) (fun R=>?_)
   ·refine Oq aq 11 [3,0] Z Z ?_;obtain⟨aY,u,W⟩:=cL F;refine Qu (e:=74) (m:=1) ho u Z Z Z Z (fun a0 X z aa A=>?_);have hr102':=A;obtain⟨a1,rfl,C⟩:=hr102';refine O Z (QF aq z Z Z) Z<|O Z (QD C Z Z Z (e:=67) Z) Z<|O Z (qB Z Z Z Z) Z<|PY 3 Z<|aJ<|PW 5 Z<|aO ⟨M-1,by omega,oF,i+1,_,by omega,Z,cI<|bg (by have:=ho.bG;omega),aq⟩
   refine OL 3 Z<|aT<|PX 10 Z ?_;exact aA Z Z ⟨_,Z,aq.pop⟩
  refine OR 10 Z<|bc<|aT<|PX 10 Z ?_;exact aA Z Z ⟨_,Z,aq.pop⟩
 refine OR 9 Z<|bc<|aT<|OH 7 Z ?_;obtain⟨LL5,aq,hLL5⟩:=aq.named;refine bp ([5,7]++rg 59 24) (fun j t U=>∃(i:Nat) (m:Int),j+i=g.from_.length/\t.get 5=some (.int .i64 m)/\t.get 7=some (.int .i64 (.ofNat i))/\J U K LL5) (g.from_.length) ⟨0,_,Z,Z,Z,aq⟩ ?_;clear aq;intro j7 t U ar hI;obtain⟨i,m,bm,E,a2,aq⟩:=hI;subst hLL5;obtain⟨oo,rfl⟩:=ar.q2 E a2 Z;refine OU aq 6 [2,0] Z Z<|O Z (QD hf Z Z Z (e:=74) Z) Z<|vQ 1 Z<|ky Z (an Z) (fun ab=>?_) (fun ab=>?_)
 ·refine Pv 7 Z<|aE Z (fun a3=>?_) (fun a3=>?_)
  ·refine Oq aq 11 [2,0] Z Z ?_;obtain⟨bo,ac,a9⟩:=cL ab;refine Qu (e:=74) (m:=1) hf ac Z Z Z Z (fun bs bb am be ao=>?_);have hr78':=ao;obtain⟨bt,rfl,ap⟩:=hr78';refine O Z (QF aq am Z Z) Z<|O Z (QD ap Z Z Z (e:=67) Z) Z<|O Z (qB Z Z Z Z) Z<|PY 3 Z<|aJ<|PW 5 Z<|aO ⟨j7-1,by omega,oF,i+1,_,by omega,Z,cI<|bg (by have:=hf.bG;omega),aq⟩
  refine OL 3 Z<|aT<|OH 7 Z ?_;obtain⟨LL6,aq,hLL6⟩:=aq.named;refine bp ([5,8]++rg 83 24) (fun j t U=>∃(i:Nat) (m:Int),j+i=g.order.length/\t.get 5=some (.int .i64 m)/\t.get 8=some (.int .i64 (.ofNat i))/\J U K LL6) (g.order.length) ⟨0,_,Z,Z,Z,aq⟩ ?_;clear aq;intro M t U ar hI;obtain⟨i,m,aI,E,Q,aq⟩:=hI;subst hLL6;obtain⟨oo,rfl⟩:=ar.q2 E Q Z;refine OU aq 6 [3,0] Z Z<|O Z (QD ho Z Z Z (e:=74) Z) Z<|vQ 1 Z<|ky Z (an Z) (fun F=>?_) (fun F=>?_)
  ·refine Pv 7 Z<|aE Z (fun R=>?_) (fun R=>?_)
   ·refine Oq aq 11 [3,0] Z Z ?_;obtain⟨aY,u,W⟩:=cL F;refine Qu (e:=74) (m:=1) ho u Z Z Z Z (fun a0 X z aa A=>?_);have hr102':=A;obtain⟨a1,rfl,C⟩:=hr102';refine O Z (QF aq z Z Z) Z<|O Z (QD C Z Z Z (e:=67) Z) Z<|O Z (qB Z Z Z Z) Z<|PY 3 Z<|aJ<|PW 5 Z<|aO ⟨M-1,by omega,oF,i+1,_,by omega,Z,cI<|bg (by have:=ho.bG;omega),aq⟩
   refine OL 3 Z<|aT<|PX 10 Z ?_;exact aA Z Z ⟨_,Z,aq.pop⟩
  refine OR 10 Z<|bc<|aT<|PX 10 Z ?_;exact aA Z Z ⟨_,Z,aq.pop⟩
 refine OR 10 Z<|bc<|aT<|OH 7 Z ?_;obtain⟨LL7,aq,hLL7⟩:=aq.named;refine bp ([5,8]++rg 83 24) (fun j t U=>∃(i:Nat) (m:Int),j+i=g.order.length/\t.get 5=some (.int .i64 m)/\t.get 8=some (.int .i64 (.ofNat i))/\J U K LL7) (g.order.length) ⟨0,_,Z,Z,Z,aq⟩ ?_;clear aq;intro M t U ar hI;obtain⟨i,m,aI,E,Q,aq⟩:=hI;subst hLL7;obtain⟨oo,rfl⟩:=ar.q2 E Q Z;refine OU aq 6 [3,0] Z Z<|O Z (QD ho Z Z Z (e:=74) Z) Z<|vQ 1 Z<|ky Z (an Z) (fun F=>?_) (fun F=>?_)
 ·refine Pv 7 Z<|aE Z (fun R=>?_) (fun R=>?_)
  ·refine Oq aq 11 [3,0] Z Z ?_;obtain⟨aY,u,W⟩:=cL F;refine Qu (e:=74) (m:=1) ho u Z Z Z Z (fun a0 X z aa A=>?_);have hr102':=A;obtain⟨a1,rfl,C⟩:=hr102';refine O Z (QF aq z Z Z) Z<|O Z (QD C Z Z Z (e:=67) Z) Z<|O Z (qB Z Z Z Z) Z<|PY 3 Z<|aJ<|PW 5 Z<|aO ⟨M-1,by omega,oF,i+1,_,by omega,Z,cI<|bg (by have:=ho.bG;omega),aq⟩
  refine OL 3 Z<|aT<|PX 10 Z ?_;exact aA Z Z ⟨_,Z,aq.pop⟩
 refine OR 10 Z<|bc<|aT<|PX 10 Z ?_;exact aA Z Z ⟨_,Z,aq.pop⟩
theorem KW {x y:dw}:dk [x.ia,x.index] [y.ia,y.index]=dk x y:=dw.same
theorem F1 {G:Cx} (X:Plain G) {K:KP} {g:XG} {a b c d:V} (h:eN K g a b c d) (e:db) {U:D} {L:Own} (aq:J U K L):bk Tryz.prog G 82 [.agg [a,b,c,d],.agg<|ints e.ints] U fun v U'=>v= .bool (bW e (.ofNat g.init.length))/\J U' K L:=by
 have h':=h;obtain⟨hi,ht,hf,ho⟩:=h';refine PS X Tryz.func82 Z<|Pt 2 Z<|kp aq Z (cz Z Z) (fun U b1 aq=>?_);refine kp aq Z (cz Z Z) (fun U b2 aq=>?_);refine Ou aq 9 [0,0] Z Z<|ky Z (an Z) (fun R=>?_) (fun R=>?_)
 ·refine OQ 44 Z ?_;exact aA Z Z ⟨cB (by unfold bW aX;simp only[R,ct,cf]),aq.pop.pop⟩
 refine P3 aq 4 [0,0] Z Z<|ky Z (an Z) (fun u=>?_) (fun u=>?_)
 ·refine OQ 39 Z ?_;exact aA Z Z ⟨cB (by unfold bW aX;simp only[R,u,ct,cf]),aq.pop.pop⟩
 refine P3 aq 4 [2,0] Z Z<|ky Z (an Z) (fun A=>?_) (fun A=>?_)
 ·refine OQ 34 Z ?_;exact aA Z Z ⟨cB (by unfold bW aX;simp only[R,u,A,ct,cf]),aq.pop.pop⟩
 refine P3 aq 4 [2,0] Z Z<|ky Z (an Z) (fun C=>?_) (fun C=>?_)
 ·refine OQ 29 Z ?_;exact aA Z Z ⟨cB (by unfold bW aX;simp only[R,u,A,C,ct,cf]),aq.pop.pop⟩
 refine O Z (QC Z aq.g0 (n:=5) (vs:=[_,_,_,_,_]) Z) Z<|bf Z (Qz Z Z Z) (fun _=>Z) (CU X _ aq) (fun U aq=>?_);refine O Z (cV Z) Z<|ky Z (an Z) (fun F=>?_) (fun F=>?_)
 ·refine P3 aq 5 [3,0] Z Z<|ky Z (an Z) (fun W=>?_) (fun W=>?_)
  ·refine OQ 19 Z ?_;exact aA Z Z ⟨cB (by unfold bW aX;simp only[R,u,A,C,F,W,ct,cf]),aq.pop.pop⟩
  refine O Z (QC Z aq.g0 (n:=5) (vs:=[_,_,_,_,_]) Z) Z<|bf Z (Qz Z Z Z) (fun _=>Z) (ml X _ aq) (fun U aq=>?_);refine O Z (cV Z) Z<|ky Z (an Z) (fun E=>?_) (fun E=>?_)
  ·refine PC aq 7 [4,0] Z Z<|aE Z (fun Q=>?_) (fun Q=>?_)
   ·refine Pu 7 Z ?_;exact aA Z Z ⟨cB (by unfold bW aX;simp only[R,u,A,C,F,W,E,Q,ct,cf]),aq.pop.pop⟩
   refine Ot aq 8 [0,0] Z Z<|Pv 2 Z<|aE Z (fun z=>?_) (fun z=>?_)
   ·refine PB aq 10 [1,0] Z Z ?_;exact aA Z Z ⟨cB (by unfold bW aX;simp only[R,u,A,C,F,W,E,Q,z,ct,cf]),aq.pop.pop⟩
   refine OV aq 7 [1,0] Z Z<|ky Z (an Z) (fun M=>?_) (fun M=>?_)
   ·refine P3 aq 4 [1,0,0,1] Z Z<|O Z (QD hi Z Z Z (e:=2) Z) Z<|Px 6 Z ?_;exact aA Z Z ⟨cB (by unfold bW aX;simp only[R,u,A,C,F,W,E,Q,z,M,ct,cf]),aq.pop.pop⟩
   refine Px 11 Z ?_;exact aA Z Z ⟨cB (by unfold bW aX;simp only[R,u,A,C,F,W,E,Q,z,M,ct,cf]),aq.pop.pop⟩
  refine Pv 8 Z<|Ot aq 8 [0,0] Z Z<|Pv 2 Z<|aE Z (fun z=>?_) (fun z=>?_)
  ·refine PB aq 10 [1,0] Z Z ?_;exact aA Z Z ⟨cB (by unfold bW aX;simp only[R,u,A,C,F,W,E,z,ct,cf]),aq.pop.pop⟩
  refine OV aq 7 [1,0] Z Z<|ky Z (an Z) (fun M=>?_) (fun M=>?_)
  ·refine P3 aq 4 [1,0,0,1] Z Z<|O Z (QD hi Z Z Z (e:=2) Z) Z<|Px 6 Z ?_;exact aA Z Z ⟨cB (by unfold bW aX;simp only[R,u,A,C,F,W,E,z,M,ct,cf]),aq.pop.pop⟩
  refine Px 11 Z ?_;exact aA Z Z ⟨cB (by unfold bW aX;simp only[R,u,A,C,F,W,E,z,M,ct,cf]),aq.pop.pop⟩
 refine PZ 6 Z<|O Z (QC Z aq.g0 (n:=5) (vs:=[_,_,_,_,_]) Z) Z<|bf Z (Qz Z Z Z) (fun _=>Z) (ml X _ aq) (fun U aq=>?_);refine O Z (cV Z) Z<|ky Z (an Z) (fun E=>?_) (fun E=>?_)
 ·refine PC aq 7 [4,0] Z Z<|aE Z (fun Q=>?_) (fun Q=>?_)
  ·refine Pu 7 Z ?_;exact aA Z Z ⟨cB (by unfold bW aX;simp only[R,u,A,C,F,E,Q,ct,cf]),aq.pop.pop⟩
  refine Ot aq 8 [0,0] Z Z<|Pv 2 Z<|aE Z (fun z=>?_) (fun z=>?_)
  ·refine PB aq 10 [1,0] Z Z ?_;exact aA Z Z ⟨cB (by unfold bW aX;simp only[R,u,A,C,F,E,Q,z,ct,cf]),aq.pop.pop⟩
  refine OV aq 7 [1,0] Z Z<|ky Z (an Z) (fun M=>?_) (fun M=>?_)
  ·refine P3 aq 4 [1,0,0,1] Z Z<|O Z (QD hi Z Z Z (e:=2) Z) Z<|Px 6 Z ?_;exact aA Z Z ⟨cB (by unfold bW aX;simp only[R,u,A,C,F,E,Q,z,M,ct,cf]),aq.pop.pop⟩
  refine Px 11 Z ?_;exact aA Z Z ⟨cB (by unfold bW aX;simp only[R,u,A,C,F,E,Q,z,M,ct,cf]),aq.pop.pop⟩
 refine Pv 8 Z<|Ot aq 8 [0,0] Z Z<|Pv 2 Z<|aE Z (fun z=>?_) (fun z=>?_)
 ·refine PB aq 10 [1,0] Z Z ?_;exact aA Z Z ⟨cB (by unfold bW aX;simp only[R,u,A,C,F,E,z,ct,cf]),aq.pop.pop⟩
 refine OV aq 7 [1,0] Z Z<|ky Z (an Z) (fun M=>?_) (fun M=>?_)
 ·refine P3 aq 4 [1,0,0,1] Z Z<|O Z (QD hi Z Z Z (e:=2) Z) Z<|Px 6 Z ?_;exact aA Z Z ⟨cB (by unfold bW aX;simp only[R,u,A,C,F,E,z,M,ct,cf]),aq.pop.pop⟩
 refine Px 11 Z ?_;exact aA Z Z ⟨cB (by unfold bW aX;simp only[R,u,A,C,F,E,z,M,ct,cf]),aq.pop.pop⟩
theorem Hu {G:Cx} (F:Plain G) {K:KP} {g:XG} {a b c d:V} (h:eN K g a b c d) (th ix M Q:Int) {U:D} {L:Own} (aq:J U K L):bk Tryz.prog G 83 [.agg [a,b,c,d],.agg [.int .i64 th,.int .i64 ix],.agg [.int .i64 M,.int .i64 Q]] U fun v U'=>v= .bool (dJ g ⟨th,ix⟩ ⟨M,Q⟩)/\J U' K L:=by
 have h':=h;obtain⟨hi,ht,hf,ho⟩:=h';refine PS F Tryz.func83 Z<|Pt 2 Z<|kp aq Z (cz Z Z) (fun U b1 aq=>?_);refine kp aq Z (cz Z Z) (fun U b2 aq=>?_);refine kp aq Z (cz Z Z) (fun U b3 aq=>?_);refine OO 5 Z<|O Z (QC Z (aq.get 2 Z) (n:=4) (vs:=[_,_,_,_]) Z) Z<|O Z (QC Z aq.g1 (n:=2) (vs:=[_,_]) Z) Z<|bf Z (Qz Z Z Z) (fun _=>Z) (tv F h _ _ aq) (fun U aq=>?_);refine PZ 3 Z<|kp aq Z (QE (cs:=[T,T,T,T,T])) (fun U b4 aq=>?_);refine bO aq Z (QH Z Z Z aq.g0 (m:=5) Z Z (cells':=[_,_,_,_,_]) Z) Z (fun U aq=>?_);refine On 6 Z<|O Z (QC Z aq.g0 (n:=5) (vs:=[_,_,_,_,_]) Z) Z<|bf Z (Qz Z Z Z) (fun _=>Z) (CU F _ aq) (fun U aq=>?_);refine O Z (cV Z) Z<|Pv 2 Z<|aE Z (fun u=>?_) (fun u=>?_)
 ·refine Pt 2 Z (O Z (QC Z aq.g1 (n:=2) (vs:=[_,_]) Z) Z (O Z (Qy (places:=[(0,1),(1,1)]) (zero:=[T,T]) (cs:=[_,_]) Z) Z<|O Z (J2 (n:=2) (ca:=[_,_]) (cb:=[_,_]) Y Z Z Z Z) Z<|OQ 5 Z ?_));exact aA Z Z ⟨cB (by unfold dJ;simp only[u,ct,cf]),aq.pop.pop.pop.pop⟩
 refine OK 4 Z<|O Z (QC Z (aq.get 3 Z) (n:=4) (vs:=[_,_,_,_]) Z) Z<|O Z (QC Z aq.g1 (n:=2) (vs:=[_,_]) Z) Z<|bf Z (Qz Z Z Z) (fun _=>Z) (tv F h _ _ aq) (fun U aq=>?_);refine PZ 3 Z<|kp aq Z (QE (cs:=[T,T,T,T,T])) (fun U b5 aq=>?_);refine bO aq Z (QH Z Z Z aq.g0 (m:=5) Z Z (cells':=[_,_,_,_,_]) Z) Z (fun U aq=>?_);refine OO 6 Z<|ky Z (an Z) (fun z=>?_) (fun z=>?_)
 ·refine O Z (QC Z (aq.get 2 Z) (n:=2) (vs:=[_,_]) Z) Z<|O Z (QC Z (aq.get 3 Z) (n:=2) (vs:=[_,_]) Z) Z<|O Z (zw (n:=2) (ca:=[_,_]) (cb:=[_,_]) Y Z Z Z Z) Z<|vQ 1 Z<|ky Z (an Z) (fun A=>?_) (fun A=>?_)
  ·refine O Z (QC Z aq.g0 (n:=5) (vs:=[_,_,_,_,_]) Z) Z<|bf Z (Qz Z Z Z) (fun _=>Z) (ml F _ aq) (fun U aq=>?_);refine vQ 1 Z<|ky Z (an Z) (fun C=>?_) (fun C=>?_)
   ·refine P3 aq 6 [1,0,1,1] Z Z<|ky Z (an Z) (fun E=>?_) (fun E=>?_)
    ·refine PF aq 10 [4,0,3,1] Z Z ?_;exact aA Z Z ⟨cB (by unfold dJ;simp only[u,z,A,C,E,ct,cf]),aq.pop.pop.pop.pop.pop⟩
    refine Px 10 Z ?_;exact aA Z Z ⟨cB (by unfold dJ;simp only[u,z,A,C,E,ct,cf]),aq.pop.pop.pop.pop.pop⟩
   refine Px 17 Z ?_;exact aA Z Z ⟨cB (by unfold dJ;simp only[u,z,A,C,ct,cf]),aq.pop.pop.pop.pop.pop⟩
  refine Px 21 Z ?_;exact aA Z Z ⟨cB (by unfold dJ;simp only[u,z,A,ct,cf]),aq.pop.pop.pop.pop.pop⟩
 refine Px 26 Z ?_;exact aA Z Z ⟨cB (by unfold dJ;simp only[u,z,ct,cf]),aq.pop.pop.pop.pop.pop⟩
theorem EH {G:Cx} (hG:Plain G) {K:KP} {g:XG} {a b c d:V} (h:eN K g a b c d) {ln:Nat} {C:List dw} (a8:g.order[ln]?=some C) (hT:g.threads.length<=4) (hR:∀l∈g.threads,l.length<=14) {U:D} {L:Own} (aq:J U K L):bk Tryz.prog G 84 [.agg [a,b,c,d],.int .i64 (.ofNat ln)] U fun v U'=>∃q,v= .bool q/\(q=true↔EP g ln C)/\J U' K L:=by
 have h':=h;obtain⟨hi,ht,hf,R⟩:=h';refine PS hG Tryz.func84 Z<|Pt 2 Z<|kp aq Z (cz Z Z) (fun U b1 aq=>?_);refine Om 15 Z ?_;obtain⟨LL1,aq,hLL1⟩:=aq.named;refine bp ([5,6,7]++rg 13 41) (fun j t U=>∃(i1:Nat),j+i1=g.threads.length/\t.get 5=some (.int .i64 (.ofNat<|jf (.ofNat ln)<|g.threads.take i1))/\t.get 6=some (.int .i64 (.ofNat i1))/\J U K LL1) (g.threads.length) ⟨0,Z,Z,Z,aq⟩ ?_;clear aq;intro j3 t U ar hI;obtain⟨i1,eg,ap,ck,aq⟩:=hI;subst hLL1;obtain⟨oo,rfl⟩:=ar.q2 ap ck Z;refine OU aq 6 [1,0] Z Z<|O Z (QD ht Z Z Z (e:=57) Z) Z<|Pv 3 Z<|aE Z (fun aI=>?_) (fun aI=>?_)
 ·refine NP 6 Z ?_;obtain⟨xa,X,hi_xa⟩:=cL aI;refine OM 4 Z ?_;obtain⟨LL2,aq,hLL2⟩:=aq.named;refine bp ([5,7]++rg 20 34) (fun j t U=>∃(i2:Nat),j+i2=xa.length/\t.get 5=some (.int .i64 (.ofNat (jf (.ofNat ln) (g.threads.take i1)+gj (.ofNat ln) (xa.take i2))))/\t.get 7=some (.int .i64 (.ofNat i2))/\J U K LL2) (xa.length) ⟨0,Z,Z,Z,aq⟩ ?_;clear aq;intro j6 t U ar hI;obtain⟨i2,el,ap,cl,aq⟩:=hI;subst hLL2;obtain⟨oo,rfl⟩:=ar.q2 ap cl Z;refine OU aq 7 [1,0] Z Z<|Qu (e:=57) (m:=1) ht X Z Z Z Z (fun em c4 a9 c5 bb=>?_);have hr24':=bb;obtain⟨en,rfl,Q⟩:=hr24';refine O Z (QF aq a9 Z Z) Z<|O Z (QD Q Z Z Z (e:=56) Z) Z<|Pv 3 Z<|aE Z (fun aY=>?_) (fun aY=>?_)
  ·refine NQ aq 9 [1,0] Z Z<|Qu (e:=57) (m:=1) ht X Z Z Z Z (fun er c7 be c8 bi=>?_);have hr33':=bi;obtain⟨es,rfl,bl⟩:=hr33';refine O Z (QF aq be Z Z) Z<|vQ 1 Z ?_;obtain⟨et,E,c9⟩:=cL aY;refine Qu (e:=56) (m:=5) bl E Z Z Z Z (fun ev dd bm dl bo=>?_);obtain rfl:=bo;refine O Z (QG aq bm Z Z) Z<|bf Z (Qz Z Z Z) (fun _=>Z) (ml hG _ aq) (fun U aq=>?_);refine ky Z (an Z) (fun a0=>?_) (fun a0=>?_)
   ·refine P3 aq 3 [1,0] Z Z<|Qu (e:=57) (m:=1) ht X Z Z Z Z (fun ex dm bs dr bt=>?_);have hr43':=bt;obtain⟨eC,rfl,bv⟩:=hr43';refine O Z (QF aq bs Z Z) Z<|vQ 1 Z<|Qu (e:=56) (m:=5) bv E Z Z Z Z (fun eS ds bw dx b0=>?_);obtain rfl:=b0;refine cq bw Z Z Z (k:=1) Y (lb Z) (fun _=>Z) (fun eT b3=>?_);refine O Z (QF aq b3 Z Z) Z<|Pv 5 Z<|aE Z (fun a1=>?_) (fun a1=>?_)
    ·refine PW 5 Z (aJ (PW 5 Z (aO ⟨j6-1,by omega,oF,i2+1,by omega,(cI ((bg (by have h1:=zK (loc:=.ofNat ln) (i:=i1) hT hR;have h2:=tJ (loc:=.ofNat ln) (l:=xa.take i2);have h3:=hR _ (gB_ X);rw[lT_] at h2;omega)).trans (by rw[Kt E a0 a1];rfl))),cI<|bg (by have:=Q.bG;omega),aq⟩)))
    refine aG<|aJ<|PW 5 Z<|aO ⟨j6-1,by omega,oF,i2+1,by omega,(by rw[HP (loc:=.ofNat ln) E (.inr a1)];exact Z),cI<|bg (by have:=Q.bG;omega),aq⟩
   refine OP 17 Z<|PW 5 Z<|aO ⟨j6-1,by omega,oF,i2+1,by omega,(by rw[HP (loc:=.ofNat ln) E (.inl a0)];exact Z),cI<|bg (by have:=Q.bG;omega),aq⟩
  rw[tL_<|bC aY];refine OL 3 Z<|aT<|aJ<|PW 5 Z<|aO ⟨j3-1,by omega,oF,i1+1,by omega,(by rw[uC X];exact Z),cI<|bg (by have:=ht.bG;omega),aq⟩
 rw[tL_<|bC aI];refine OL 3 Z<|aT<|PA aq 5 [3,0] Z Z<|Qu (e:=74) (m:=1) R a8 Z Z Z Z (fun e0 d0 b4 d1 b5=>?_);have hr57':=b5;obtain⟨e2,rfl,A⟩:=hr57';refine O Z (QF aq b4 Z Z) Z<|Om 10 Z ?_;obtain⟨LL3,aq,hLL3⟩:=aq.named;refine bp ([4]++rg 9 4++rg 59 50) (fun j t U=>∃(i:Nat),j+i=C.length/\(∀(k:Nat) (x:dw),k<i->C[k]?=some x->x9 g (.ofNat ln) x=true/\∀(k2:Nat) (y:dw),k2<k->C[k2]?=some y->y≠x)/\t.get 9=some (.int .i64 (.ofNat i))/\J U K LL3) (C.length) ⟨0,Z,fun k x hk=>absurd hk (nZ_ _),Z,aq⟩ ?_;clear aq;intro cn t U ar hI;obtain⟨i,d2,aa,co,aq⟩:=hI;subst hLL3;obtain⟨oo,rfl⟩:=ar.q1 co Z;refine OI 5 Z<|O Z (QD A Z Z Z (e:=67) Z) Z<|Pv 3 Z<|aE Z (fun am=>?_) (fun am=>?_)
 ·refine NO 5 Z (aS (l:=[(0,[]),(1,[]),(2,[]),(3,[]),(4,[]),(9,[]),(5,[9]),(6,[]),(7,[]),(8,[]),(10,[]),(11,[])]) Y Y<|al Z Z (QC Z aq.g0 (n:=4) (vs:=[_,_,_,_]) Z) Z<|P1 2 Z ?_);obtain⟨u,z,d3⟩:=cL am;refine Qv (e:=67) (m:=2) A z Z Z Z Z Z (fun e3 d4 b6 d5 b7=>?_);obtain rfl:=b7;refine al Z Z (QG aq b6 Z Z) Z<|pB aq Z Z (QE (cs:=[T,T,T,T,T])) (fun _=>Z) (fun U b2 aq=>?_);refine cA Z Z (Qz Z Z Z) (fun _=>Z) (tv hG h _ _ aq) (fun U aq=>?_);refine⟨(bB (iq Z Z Z Z Z (cs:=[T,T,T,T,T]) (e:=56) Y aq.g0 Y) aV),?_⟩;refine P1 3 Z<|kb aq Z Z (QH Z Z Z aq.g0 (m:=5) Z Z (cells':=[_,_,_,_,_]) Z) Z (fun U aq=>?_);refine⟨aV,?_⟩;refine OS 4 Z<|Pt 3 Z<|O Z (cV Z) Z<|ky Z (an Z) (fun W=>?_) (fun W=>?_)
  ·refine Px 27 Z<|aw<|aF<|aw<|bz<|aF<|aw (?_);exact aA Z Z ⟨_,Z,⟨(fun hh=>by cases hh),fun R=>absurd (R.NM u<|gB_ z) (by unfold x9;rw[show(fh g u).isSome=false from kA W];exact Bool.false_ne_true)⟩,aq.pop.pop⟩
  refine PZ 2 Z<|Qu (e:=67) (m:=2) A z Z Z Z Z (fun e4 d6 b8 d7 b9=>?_);obtain rfl:=b9;refine cq b8 Z Z Z (k:=0) Y (lb Z) (fun _=>Z) (fun e5 cc=>?_);refine O Z (QF aq cc Z Z) Z<|PZ 2 Z<|ky Z (an Z) (fun ab=>?_) (fun ab=>?_)
  ·refine Px 19 Z<|aw<|aF<|aw<|bz<|aF<|aw (?_);exact aA Z Z ⟨_,Z,⟨(fun hh=>by cases hh),fun R=>absurd (R.NM u<|gB_ z) (by unfold x9;rw[show(fh g u).isSome=true from eV W,show I u.ia 0=true from ab];exact Bool.false_ne_true)⟩,aq.pop.pop⟩
  refine O Z (QC Z aq.g0 (n:=5) (vs:=[_,_,_,_,_]) Z) Z<|bf Z (Qz Z Z Z) (fun _=>Z) (ml hG _ aq) (fun U aq=>?_);refine O Z (cV Z) Z<|vQ 1 Z<|ky Z (an Z) (fun ao=>?_) (fun ao=>?_)
  ·refine Px 14 Z<|aw<|aF<|aw<|bz<|aF<|aw (?_);exact aA Z Z ⟨_,Z,⟨(fun hh=>by cases hh),fun R=>absurd (R.NM u<|gB_ z) (by unfold x9;rw[show(fh g u).isSome=true from eV W,show I u.ia 0=false from ab,show bq (AP<|fh g u)=false from kA ao];exact Bool.false_ne_true)⟩,aq.pop.pop⟩
  refine PC aq 7 [1,0] Z Z<|aE Z (fun a2=>?_) (fun a2=>?_)
  ·refine PX 6 Z<|aw<|aF<|aw<|bz<|aF<|aw (?_);exact aA Z Z ⟨_,Z,⟨(fun hh=>by cases hh),fun R=>absurd (R.NM u<|gB_ z) (by unfold x9;rw[show(fh g u).isSome=true from eV W,show I u.ia 0=false from ab,show bq (AP<|fh g u)=true from eV ao,show I (AP<|fh g u).loc (.ofNat ln)=false from bT a2];exact Bool.false_ne_true)⟩,aq.pop.pop⟩
  have ce:x9 g (.ofNat ln) u=true:=by unfold x9;rw[show(fh g u).isSome=true from eV W,show I u.ia 0=false from ab,show bq (AP<|fh g u)=true from eV ao];exact bj a2
  refine OK 5 Z<|OM 3 Z ?_;obtain⟨LL4,aq,hLL4⟩:=aq.named;refine bp ([4,12]++rg 95 14) (fun j t U=>∃(i3:Nat),j+i3=i/\(∀(k2:Nat) (y:dw),k2<i3->C[k2]?=some y->y≠u)/\t.get 12=some (.int .i64 (.ofNat i3))/\J U K LL4) (i) ⟨0,Z,fun k2 y hk=>absurd hk (nZ_ _),Z,aq⟩ ?_;clear aq;intro cp t U ar hI;obtain⟨i3,d8,cg,ch,aq⟩:=hI;subst hLL4;obtain⟨oo,rfl⟩:=ar.q1 ch Z;refine Ps 8 Z<|aE Z (fun F=>?_) (fun F=>?_)
  ·refine NO 5 Z<|aS (l:=zp [0,1,2,3,4,5,6,7,8]) Y Y<|P1 2 Z ?_;obtain⟨d9,M⟩:=cm (show i3<C.length from by have:=bu F;omega);refine Qv (e:=67) (m:=2) A M Z Z Z Z Z (fun eb cv a3 cx a4=>?_);obtain rfl:=a4;refine al Z Z (QG aq a3 Z Z) Z<|P1 2 Z<|Qv (e:=67) (m:=2) A z Z Z Z Z Z (fun ee c0 a5 c1 a6=>?_);obtain rfl:=a6;refine al Z Z (QG aq a5 Z Z) Z<|al Z Z (J2 (n:=2) (ca:=[_,_]) (cb:=[_,_]) Y Z Z Z Z) Z<|Py 2 Z<|aE Z (fun ac=>?_) (fun ac=>?_)
   ·refine PX 6 Z<|aF<|aw<|bz<|aF<|aF<|aw<|bz<|aF<|aw (?_);exact aA Z Z ⟨_,Z,⟨(fun hh=>by cases hh),fun R=>absurd (dc.1<|KW.symm.trans ac) (I6 R.nodup (bu F) M z)⟩,aq.pop.pop⟩
   refine aG (aJ (PW 5 Z (aO ⟨cp-1,by have:=bu F;omega,oF,i3+1,by have:=bu F;omega,fun k2 y hk hy=>(by by_cases a7:k2=i3;(subst a7;rw[M] at hy;cases hy;exact fun he=>absurd ac (by rw[he,dc.2 Z];decide));exact cg k2 y B hy),cI<|bg (by have:=A.bG;have:=bu F;omega),aq⟩)))
  refine OL 3 Z<|aT<|aJ<|PW 5 Z ?_;have aq:=aq.pop;refine aO ⟨cn-1,by omega,oF,i+1,by omega,fun k x hk hx=>(by by_cases a7:k=i;(subst a7;rw[z] at hx;cases hx;exact⟨ce,fun k2 y e6 hy=>cg k2 y (by have:=bC F;omega) hy⟩);exact aa k x B hx),cI<|bg (by have:=A.bG;omega),aq⟩
 refine OL 3 Z<|aT<|Pt 3 Z<|O Z (QD A Z Z Z (e:=67) Z) Z<|Px 6 Z ?_;exact aA Z Z ⟨_,Z,⟨fun hh=>⟨fun id c2=>(by obtain⟨k,hk⟩:=gO_ c2;exact(aa k id (by have:=(gA.1 hk).1;have:=bC am;omega) hk).1),I7 fun k m x y c3 hx hy=>(aa m y (by have:=(gA.1 hy).1;have:=bC am;omega) hy).2 k x c3 hx,(by have ci:I (.ofNat C.length) (.ofNat<|jf (.ofNat ln) g.threads)=true:=hh;rw[fv] at ci;exact of_decide_eq_true ci)⟩,fun R=>(by show I (.ofNat C.length) (.ofNat<|jf (.ofNat ln) g.threads)=true;rw[fv,R.C0];exact decide_eq_true Z)⟩,aq.pop⟩
theorem ox {G:Cx} (hG:Plain G) {K:KP} {g:XG} {a b c d:V} (h:eN K g a b c d) {U:D} {L:Own} (aq:J U K L):bk Tryz.prog G 47 [.agg [a,b,c,d]] U fun v U'=>v= .int .i64 (cd g)/\J U' K L:=by
 have h':=h;obtain⟨hi,F,hf,ho⟩:=h';refine PS hG Tryz.func47 Z<|Pt 2 Z<|kp aq Z (cz Z Z) (fun U b1 aq=>?_);refine Ou aq 8 [1,0] Z Z<|O Z (QD F Z Z Z (e:=57) Z) Z<|vQ 1 Z<|ky Z (an Z) (fun a0=>?_) (fun a0=>?_)
 ·refine OQ 15 Z ?_;exact aA Z Z ⟨cJ (by rw[pN<|CJ a0]),aq.pop⟩
 refine P3 aq 2 [0,0] Z Z<|O Z (QD hi Z Z Z (e:=2) Z) Z<|Pv 4 Z<|aE Z (fun a1=>?_) (fun a1=>?_)
 ·refine Pu 7 Z ?_;exact aA Z Z ⟨cJ (by rw[pN<|CL a1]),aq.pop⟩
 refine Ok 9 Z ?_;obtain⟨LL1,aq,hLL1⟩:=aq.named;refine bp ([2,3]++rg 19 14) (fun j t U=>∃(i:Nat),j+i=g.threads.length/\(∀(k:Nat) (l:List db),k<i->g.threads[k]?=some l->bU 14 (.ofNat l.length)=false)/\t.get 3=some (.int .i64 (.ofNat i))/\J U K LL1) (g.threads.length) ⟨0,Z,fun k x hk=>absurd hk (nZ_ _),Z,aq⟩ ?_;clear aq;intro j4 t U ar hI;obtain⟨i,fd,M,c5,aq⟩:=hI;subst hLL1;obtain⟨oo,rfl⟩:=ar.q1 c5 Z;refine OU aq 6 [1,0] Z Z<|O Z (QD F Z Z Z (e:=57) Z) Z<|Pv 3 Z<|aE Z (fun a2=>?_) (fun a2=>?_)
 ·refine NQ aq 9 [1,0] Z Z ?_;obtain⟨fi,am,d9⟩:=cL a2;refine Qu (e:=57) (m:=1) F am Z Z Z Z (fun fk eb b7 ee b8=>?_);have hr29':=b8;obtain⟨fr,rfl,b9⟩:=hr29';refine O Z (QF aq b7 Z Z) Z<|O Z (QD b9 Z Z Z (e:=56) Z) Z<|Pv 3 Z<|aE Z (fun bl=>?_) (fun bl=>?_)
  ·refine PX 6 Z<|aF<|aw<|bz<|aF<|aw (?_);exact aA Z Z ⟨cJ (by rw[pN<|CK am bl]),aq.pop⟩
  refine aG (aJ (PW 5 Z (aO ⟨j4-1,by omega,oF,i+1,by omega,fun k l hk hl=>(by by_cases Q:k=i;(subst Q;rw[am] at hl;cases hl;exact bl);exact M k l B hl),cI<|bg (by have:=F.bG;omega),aq⟩)))
 have hTL:=ED (i:=i) a0 a1 (bC a2) M;have hT:g.threads.length<=4:=bC (a:=4) (by exact a0);have hR:∀l∈g.threads,l.length<=14:=fun l hl=>by obtain⟨k,hk⟩:=gO_ hl;exact bC (a:=14) (M k l (by have:=(gA.1 hk).1;have:=bC a2;omega) hk)
 refine OL 3 Z<|aT<|OU aq 5 [2,0] Z Z<|O Z (QD hf Z Z Z (e:=74) Z) Z<|P3 aq 2 [1,0] Z Z<|O Z (QD F Z Z Z (e:=57) Z) Z<|vQ 1 Z<|ky Z (an Z) (fun ab=>?_) (fun ab=>?_)
 ·refine OQ 18 Z ?_;exact aA Z Z ⟨cJ (by rw[mf hTL fun E=>absurd ab (by rw[E.from_,fP];decide)]),aq.pop⟩
 refine P3 aq 2 [3,0] Z Z<|O Z (QD ho Z Z Z (e:=74) Z) Z<|P3 aq 2 [0,0] Z Z<|O Z (QD hi Z Z Z (e:=2) Z) Z<|Pv 4 Z<|aE Z (fun ac=>?_) (fun ac=>?_)
 ·refine Pu 7 Z ?_;exact aA Z Z ⟨cJ (by rw[mf hTL fun E=>absurd ac (by rw[E.order,fP];decide)]),aq.pop⟩
 refine Ok 9 Z ?_;obtain⟨LL2,aq,hLL2⟩:=aq.named;refine bp ([2,4,5]++rg 49 41) (fun j t U=>∃(i:Nat),j+i=g.threads.length/\(∀(k:Nat) (x:List db) (y:List dw),k<i->g.threads[k]?=some x->g.from_[k]?=some y->y.length=x.length/\∀(m:Nat) (e:db),x[m]?=some e->bW e (.ofNat g.init.length)=true)/\t.get 4=some (.int .i64 (.ofNat i))/\J U K LL2) (g.threads.length) ⟨0,Z,fun k x y hk=>absurd hk (nZ_ _),Z,aq⟩ ?_;clear aq;intro c7 t U ar hI;obtain⟨i,eg,a7,c8,aq⟩:=hI;subst hLL2;obtain⟨oo,rfl⟩:=ar.q1 c8 Z;refine OU aq 6 [1,0] Z Z<|O Z (QD F Z Z Z (e:=57) Z) Z<|Pv 3 Z<|aE Z (fun a3=>?_) (fun a3=>?_)
 ·refine NO 5 Z<|ak<|aS (l:=zp [0,1,2,3,4,5,6,7,8,9,10,11,12]) Y Y<|P4 aq 3 [2,0] Z Z ?_;obtain⟨c9,X⟩:=cm (show i<g.from_.length from by have:=dB (bj ab);have:=bu a3;omega);refine Qv (e:=74) (m:=1) hf X Z Z Z Z Z (fun fs el ca em cb=>?_);have hr59':=cb;obtain⟨f0,rfl,cc⟩:=hr59';refine al Z Z (QF aq ca Z Z) Z<|al Z Z (QD cc Z Z Z (e:=67) Z) Z<|P4 aq 3 [1,0] Z Z ?_;obtain⟨bm,z,en⟩:=cL a3;refine Qv (e:=57) (m:=1) F z Z Z Z Z Z (fun f1 er ce es cg=>?_);have hr65':=cg;obtain⟨f2,rfl,a8⟩:=hr65';refine al Z Z (QF aq ce Z Z) Z<|al Z Z (QD a8 Z Z Z (e:=56) Z) Z<|Py 3 Z<|aE Z (fun bo=>?_) (fun bo=>?_)
  ·refine PX 6 Z<|aw<|aF<|aw<|bz<|aF<|aw (?_);exact aA Z Z ⟨cJ (by rw[mf hTL fun E=>absurd bo (by rw[(E.rows i _ _ z X).1,fP];decide)]),aq.pop⟩
  refine OK 5 Z<|OM 3 Z ?_;obtain⟨LL3,aq,hLL3⟩:=aq.named;refine bp ([2,5]++rg 69 21) (fun j t U=>∃(i2:Nat),j+i2=bm.length/\(∀(m:Nat) (e:db),m<i2->bm[m]?=some e->bW e (.ofNat g.init.length)=true)/\t.get 5=some (.int .i64 (.ofNat i2))/\J U K LL3) (bm.length) ⟨0,Z,fun k x hk=>absurd hk (nZ_ _),Z,aq⟩ ?_;clear aq;intro dd t U ar hI;obtain⟨i2,et,ch,dl,aq⟩:=hI;subst hLL3;obtain⟨oo,rfl⟩:=ar.q1 dl Z;refine OU aq 7 [1,0] Z Z<|Qu (e:=57) (m:=1) F z Z Z Z Z (fun f3 ev ci ex ck=>?_);have hr73':=ck;obtain⟨f4,rfl,cl⟩:=hr73';refine O Z (QF aq ci Z Z) Z<|O Z (QD cl Z Z Z (e:=56) Z) Z<|Pv 3 Z<|aE Z (fun bs=>?_) (fun bs=>?_)
  ·refine NO 5 Z<|aS (l:=zp [0,1,2,3,4,5,6,7,8,9,10]) Y Y<|al Z Z (QC Z aq.g0 (n:=4) (vs:=[_,_,_,_]) Z) Z<|P4 aq 3 [1,0] Z Z<|Qv (e:=57) (m:=1) F z Z Z Z Z Z (fun f5 eC cn eS co=>?_);have hr83':=co;obtain⟨f6,rfl,cp⟩:=hr83';refine al Z Z (QF aq cn Z Z) Z<|wQ 1 Z ?_;obtain⟨f7,ao,cv⟩:=cL bs;refine Qv (e:=56) (m:=5) cp ao Z Z Z Z Z (fun f8 eT cx e0 c0=>?_);obtain rfl:=c0;refine al Z Z (QG aq cx Z Z) Z<|cA Z Z (Qz Z Z Z) (fun _=>Z) (F1 hG h _ aq) (fun U aq=>?_);refine⟨aV,?_⟩;refine al Z Z (cV Z) Z<|Py 2 Z<|aE Z (fun a4=>?_) (fun a4=>?_)
   ·refine PX 6 Z<|aF<|aw<|bz<|aF<|aF<|aw<|bz<|aF<|aw (?_);exact aA Z Z ⟨cJ (by rw[mf hTL fun E=>by obtain⟨r1,r2⟩:=E.rows i _ _ z X;obtain⟨y,hy⟩:=cm (show i2<c9.length from by rw[r1];exact cv);have:=(Jd<|r2 i2 _ _ ao hy).1;rw[this] at a4;cases a4]),aq.pop⟩
   refine aG (aJ (PW 5 Z (aO ⟨dd-1,by omega,oF,i2+1,by omega,fun m e hm he=>(by by_cases bt:m=i2;(subst bt;rw[ao] at he;cases he;exact eV a4);exact ch m e B he),cI<|bg (by have:=a8.bG;omega),aq⟩)))
  refine OL 3 Z (aT (aJ (PW 5 Z (aO ⟨c7-1,by omega,oF,i+1,by omega,fun k x y hk h1 h2=>(by by_cases Q:k=i;(subst Q;rw[z] at h1;rw[X] at h2;cases h1;cases h2;exact⟨dB<|bj bo,fun m e hm=>ch m e (by have:=(gA.1 hm).1;have:=bC bs;omega) hm⟩);exact a7 k x y B h1 h2),cI<|bg (by have:=F.bG;omega),aq⟩))))
 have hrows:=a7;have hi11:=bC a3;have hlen:∀(k:Nat) (x:List db) (y:List dw),g.threads[k]?=some x->g.from_[k]?=some y->y.length=x.length/\∀(m:Nat) (e:db),x[m]?=some e->bW e (.ofNat g.init.length)=true:=fun k x y h1 h2=>hrows k x y (by have:=(gA.1 h1).1;omega) h1 h2
 have a9:∀(t:Nat) (l:List db) (m:Nat) (e:db),g.threads[t]?=some l->l[m]?=some e->bq e=true->∃ln:Nat,e.loc= .ofNat ln/\ln<g.order.length:=fun t l m e h1 h2 h3=>by
  obtain⟨y,hy⟩:=cm (show t<g.from_.length from by have:=dB (bj ab);have:=(gA.1 h1).1;omega);obtain⟨ln,k1,k2⟩:=Cr ((hlen t l y h1 hy).2 m e h2) h3;exact⟨ln,k1,by have:=dB (bj ac);omega⟩
 refine OL 3 Z<|aT<|OH 7 Z ?_;obtain⟨LL4,aq,hLL4⟩:=aq.named;refine bp ([2,6,7]++rg 90 32) (fun j t U=>∃(i4:Nat),j+i4=g.threads.length/\(∀(k:Nat) (x:List db) (y:List dw),k<i4->g.threads[k]?=some x->g.from_[k]?=some y->∀(m:Nat) (f:dw),m<x.length->y[m]?=some f->dJ g ⟨.ofNat (k+1),.ofNat m⟩ f=true)/\t.get 6=some (.int .i64 (.ofNat i4))/\J U K LL4) (g.threads.length) ⟨0,Z,fun k x y hk=>absurd hk (nZ_ _),Z,aq⟩ ?_;clear aq;intro dm t U ar hI;obtain⟨i4,e2,bb,dr,aq⟩:=hI;subst hLL4;obtain⟨oo,rfl⟩:=ar.q1 dr Z;refine OU aq 6 [1,0] Z Z<|O Z (QD F Z Z Z (e:=57) Z) Z<|Pv 3 Z<|aE Z (fun bv=>?_) (fun bv=>?_)
 ·refine NP 6 Z ?_;obtain⟨xb,a5,hi_xb⟩:=cL bv;refine OM 4 Z ?_;obtain⟨LL5,aq,hLL5⟩:=aq.named;refine bp ([2,7]++rg 97 25) (fun j t U=>∃(i5:Nat),j+i5=xb.length/\(∀(y:List dw) (m:Nat) (f:dw),m<i5->g.from_[i4]?=some y->y[m]?=some f->dJ g ⟨.ofNat (i4+1),.ofNat m⟩ f=true)/\t.get 7=some (.int .i64 (.ofNat i5))/\J U K LL5) (xb.length) ⟨0,Z,fun y m f hm=>absurd hm (nZ_ _),Z,aq⟩ ?_;clear aq;intro ds t U ar hI;obtain⟨i5,e3,c1,dx,aq⟩:=hI;subst hLL5;obtain⟨oo,rfl⟩:=ar.q1 dx Z;refine OU aq 7 [1,0] Z Z<|Qu (e:=57) (m:=1) F a5 Z Z Z Z (fun e4 d0 bw d1 b0=>?_);have hr101':=b0;obtain⟨e5,rfl,ap⟩:=hr101';refine O Z (QF aq bw Z Z) Z<|O Z (QD ap Z Z Z (e:=56) Z) Z<|Pv 3 Z<|aE Z (fun u=>?_) (fun u=>?_)
  ·refine NO 5 Z (aS (l:=zp [0,1,2,3,4,5,6,7,8,9,10,11,12,13,14]) Y Y (al Z Z (QC Z aq.g0 (n:=4) (vs:=[_,_,_,_]) Z) Z (P1 3 Z (al Z Z (Qy (places:=[(0,1),(1,1)]) (zero:=[T,T]) (cs:=[_,_]) Z) Z<|P4 aq 3 [2,0] Z Z ?_))));obtain⟨c2,C⟩:=cm (show i4<g.from_.length from by have:=dB (bj ab);omega);obtain⟨xc,d2⟩:=cm (bu u);refine Qv (e:=74) (m:=1) hf C Z Z Z Z Z (fun e6 d3 b2 d4 b3=>?_);have hr115':=b3;obtain⟨e7,rfl,b4⟩:=hr115';refine al Z Z (QF aq b2 Z Z) Z<|wQ 1 Z ?_;obtain⟨be,R⟩:=cm (show i5<c2.length from by rw[(hlen i4 _ _ a5 C).1];exact bu u);refine Qv (e:=67) (m:=2) b4 R Z Z Z Z Z (fun e8 d5 b5 d6 b6=>?_);obtain rfl:=b6;refine al Z Z (QG aq b5 Z Z) Z<|cA Z Z (Qz Z Z Z) (fun _=>Z) (Hu hG h _ _ _ _ aq) (fun U aq=>?_);refine⟨aV,?_⟩;refine al Z Z (cV Z) Z<|Py 2 Z<|aE Z (fun aI=>?_) (fun aI=>?_)
   ·refine PX 6 Z<|aF<|aw<|bz<|aF<|aF<|aw<|bz<|aF<|aw (?_);exact aA Z Z ⟨cJ (by rw[mf hTL fun E=>by obtain⟨r1,r2⟩:=E.rows i4 _ _ a5 C;have:=(Jd<|r2 i5 _ _ d2 R).2;have e:dJ g ⟨wr .i64<|Int.add (.ofNat i4) (.ofNat 1),.ofNat i5⟩ ⟨be.ia,be.index⟩=true:=(by rw[bg (by have:=F.bG;omega)];exact this);exact absurd ((kA aI).symm.trans e) (by decide)]),aq.pop⟩
   refine aG<|aJ<|PW 5 Z ?_;refine aO ⟨ds-1,by have:=bu u;omega,oF,i5+1,by have:=bu u;omega,fun y m f hm hy hf=>(by by_cases bt:m=i5;(subst bt;rw[C] at hy;cases hy;rw[R] at hf;cases hf;have hq:=eV aI;rw[<-bg (i:=i4) (by have:=F.bG;omega)];exact hq);exact c1 y m f B hy hf),cI<|bg (by have:=ap.bG;have:=bu u;omega),aq⟩
  refine OL 3 Z (aT (aJ (PW 5 Z (aO ⟨dm-1,by omega,oF,i4+1,by omega,fun k x y hk h1 h2 m f hm hf=>(by by_cases Q:k=i4;(subst Q;rw[a5] at h1;cases h1;exact c1 y m f (by have:=bC u;omega) h2 hf);exact bb k x y B h1 h2 m f hm hf),cI<|bg (by have:=F.bG;omega),aq⟩))))
 have hsrcs:=bb;have hi21:=bC bv;refine OL 3 Z<|aT<|OH 7 Z ?_;obtain⟨LL6,aq,hLL6⟩:=aq.named;refine bp ([2,8]++rg 122 11) (fun j t U=>∃(i8:Nat),j+i8=g.init.length/\(∀(k:Nat) (r:List dw),k<i8->g.order[k]?=some r->EP g k r)/\t.get 8=some (.int .i64 (.ofNat i8))/\J U K LL6) (g.init.length) ⟨0,Z,fun k x hk=>absurd hk (nZ_ _),Z,aq⟩ ?_;clear aq;intro d7 t U ar hI;obtain⟨i8,e9,bi,d8,aq⟩:=hI;subst hLL6;obtain⟨oo,rfl⟩:=ar.q1 d8 Z;refine OU aq 6 [0,0] Z Z<|O Z (QD hi Z Z Z (e:=2) Z) Z<|Pv 3 Z<|aE Z (fun A=>?_) (fun A=>?_)
 ·refine NP 6 Z<|O Z (QC Z aq.g0 (n:=4) (vs:=[_,_,_,_]) Z) Z<|vQ 1 Z ?_;obtain⟨c3,W⟩:=cm (show i8<g.order.length from by have:=dB (bj ac);have:=bu A;omega);refine cH Z (Qz Z Z Z) (fun _=>Z) (EH hG h W hT hR aq) ?_;rintro _ U ⟨c4,rfl,aY,aq⟩;refine O Z (cV Z) Z<|Pv 2 Z<|aE Z (fun aa=>?_) (fun aa=>?_)
  ·refine PX 6 Z<|aF<|aw<|bz<|aF<|aw (?_);exact aA Z Z ⟨cJ (by rw[mf hTL fun E=>by have hq:c4=true:=aY.2 ((uS a9).2 E.perm i8 c3 W);rw[hq] at aa;cases aa]),aq.pop⟩
  refine aG (aJ (PW 5 Z (aO ⟨d7-1,by have:=bu A;omega,oF,i8+1,by have:=bu A;omega,fun k r hk E=>(by by_cases Q:k=i8;(subst Q;rw[W] at E;cases E;exact aY.1<|eV aa);exact bi k r B E),cI<|bg (by have:=hi.bG;have:=bu A;omega),aq⟩)))
 have a6:yu g:=⟨hT,bC (a:=6) (by exact a1),fun k l hl=>hR l (gB_ hl),dB<|bj ab,dB<|bj ac,fun k l f h1 h2=>⟨(hlen k l f h1 h2).1,fun m e q h3 h4=>Nd ((hlen k l f h1 h2).2 m e h3) (hsrcs k l f (by have:=(gA.1 h1).1;omega) h1 h2 m q (gA.1 h3).1 h4)⟩,(uS a9).1 fun k r E=>bi k r (by have:=(gA.1 E).1;have:=dB (bj ac);have:=bC A;omega) E⟩;refine OL 3 Z<|aT<|PX 6 Z ?_;exact aA Z Z ⟨cJ (by rw[im.2 a6]),aq.pop⟩
theorem JQ {G:Cx} {K:KP} {l:List dw} {x:dw} {i n b vb e:Nat} (hn:l.length=n) (hi:i<n) (hle:n<=1000000) {U:D} {L:Own} (aq:J U K ((b,.row (de l) e false)::(vb,.row (ints x.ints) 67 false)::L)):
  vd Tryz.prog G 70 [.slice b 0 n (.known n),.int .i64 (.ofNat i),.slice vb 0 1 (.known 1)] U fun v U'=>∃u,v= .slice u 0 (n+1) (.upto 2)/\J U' K ((u,.row (de (l.take i++x::l.drop i)) 67 false)::(b,.row (de l) e false)::(vb,.row (ints x.ints) 67 false)::L):=by
 refine BF (f:=70) Tryz.func70 Z (t:=((N.leaf.put (some (.slice b 0 n (.known n))) 0).put (some (.int .i64 (.ofNat i))) 1).put (some (.slice vb 0 1 (.known 1))) 2) (by rfl)<|Pt 9 Z<|O Z (xT (e:=67) (sz:=2) Y Y Z (lC Z<|Nat.le_of_lt hi) hi) Z<|OO 5 Z<|O Z (rQ Z Z Z (e:=67) Y Z) Z<|On 7 Z<|O Z (az (v:=.bool false) Z Z Z) Z<|Oo 8 Z<|O Z (rQ Z Z Z (e:=67) Y Z) Z<|On 8 Z<|O Z (az (v:=.bool false) Z Z (by show some (V.bool<|I (.ofNat i) (.ofNat n))=_;rw[fv];simp;omega)) Z (Pv 3 Z<|Ol 9 Z<|O Z (Mh Z Z Z (e:=67) Y Z Z) Z ?_);refine O Z (az (v:=.bool true) Z Z (by show some (V.bool<|bU (.ofNat n)<|wr .i64<|Int.add (.ofNat n) (.ofNat 1))=_;rw[bg B,lX];simp)) Z (OO 7 Z<|O Z (xT (e:=67) (sz:=2) Y Y Z (oH Z<|Nat.le_of_lt hi) B) Z<|PZ 5 Z ?_);refine Ja aq Z (Hy (e:=67) (sz:=2) (w:=16) (zs:=[T,T]) (b:=b) (n:=n+1-i) (len:=i) (cp:=n) (m:=n+1) (k2:=.i64) Z Z Z Z Y Y Y Y Y Z (cI ((congrArg (fun z=>wr .i64 (Int.sub z (.ofNat i)))<|bg B).trans<|kY B B)) aq.g0 B B B B (by decide) (by decide) Z (by rw[ed];omega) B) (fun _=>Z) (fun U A aq=>?_);obtain⟨Zv,C,aa⟩:∃Zv,fp [T,T] (n+1-i)=Zv/\Zv.length=(n+1-i)*2:=⟨_,Z,by rw[nO];rfl⟩;rw[uy,C] at aq;have ab:(de<|l.take i).length=i*2:=by rw[ed,lT_];omega
 have ac:(de<|l.drop i).length=(n-i)*2:=by rw[ed,lD_];omega
 refine OO 7 Z (O Z (xU (e:=67) (sz:=2) Y Y Z<|lC Z B) Z (vQ 1 Z (O Z (AM (e:=67) (sz:=2) (C0:=1) (n:=1) (news:=ints x.ints) (cells':=de (l.take i)++(ints x.ints++Zv.drop 2)) Z Z Z Y Y Z Z (vy (len:=1) (aq.get 2 Z) (show 0+1*2<=(ints x.ints).length from nR_ 2)) (by show Nat.min 1 (n+1-i)=1;exact Nat.min_eq_left B) (by decide) aq.g0 (show cD (ints x.ints)=true from lN _) (by decide) (by show 0+i*2+2<=_;rw[lA_];omega)<|ug (X:=ints x.ints) B (by show 2<=_;omega)) Z ?_)));replace aq:=aq.pf (.row (de (l.take i)++(ints x.ints++Zv.drop 2)) 67 false);refine ON 3 Z<|aS (l:=zp [0,1,2,3,4,5,6,7,8]) Y Y<|P1 4 Z<|al Z Z (xU (e:=67) (sz:=2) Y Y Z<|lC (cI<|bg B) B) Z<|P1 2 Z<|al Z Z (xT (e:=67) (sz:=2) Y Y Z (lC Z<|Nat.le_of_lt hi) hi) Z ?_;refine eM Z Z (AM (e:=67) (sz:=2) (C0:=n-i) (n:=n-i) (news:=de<|l.drop i) (cells':=de (l.take i++x::l.drop i)) Z Z Z Y Y Z Z (by rw[vy (len:=n-i) aq.g1 (by rw[ed];omega),nA_,pM,tL_ B]) (by show Nat.min (n-i) (n+1-(i+1))=n-i;exact Nat.min_eq_left B) B aq.g0 (by rw[tL_ B];exact ux _) (by decide) (by rw[tL_ B,lA_,lA_,lD_];show _<=_+(2+_);omega) (by rw[tL_ B,Fh (by show _=_+2;omega) (by rw[lD_];omega),r5,gq])) Z ⟨aV,?_⟩;replace aq:=aq.pf (.row (de (l.take i++x::l.drop i)) 67 false);refine OT 10 Z ?_;exact aA Z Z ⟨A,Z,aq⟩
theorem Nx {G:Cx} (F:G.ov 106=true) {K:KP} {l:List dw} {x:dw} {i n b vb:Nat} (hn:l.length=n) (hi:i<n) (hle:n<=1000000) (M:b≠vb) {U:D} {L:Own} (aq:J U K ((b,.row (de l++[V.any,V.any]) 67 false)::(vb,.row (ints x.ints) 67 false)::L)):
  vd Tryz.prog G 70 [.slice b 0 n (.least (n+1) 2),.int .i64 (.ofNat i),.slice vb 0 1 (.known 1)] U fun v U'=>v= .slice b 0 (n+1) (.least (n+1) 2)/\J U' K ((b,.row (de (l.take i++x::l.drop i)) 67 false)::(vb,.row (ints x.ints) 67 false)::L):=by
 have aa:(de<|l.take i).length=i*2:=by rw[ed,lT_];omega
 have u:(de<|l.drop i).length=(n-i)*2:=by rw[ed,lD_];omega
 obtain⟨z,C,A,hC1,hC2⟩:∃z C:List V,z++C=de (l.drop i)++[V.any,V.any]/\z.length=2/\C.length=(de<|l.drop i).length:=
  ⟨(de (l.drop i)++[V.any,V.any]).take 2,(de (l.drop i)++[V.any,V.any]).drop 2,List.take_append_drop _ _,by rw[lT_,lA_];show min 2 (_+2)=2;omega,by rw[lD_,lA_];show _+2-2=_;omega⟩
 have E:de l++[V.any,V.any]=de (l.take i)++(z++C):=by rw[A,<-lQ_,<-r5,List.take_append_drop]
 rw[E] at aq;refine BF (f:=70) Tryz.func70 Z (t:=((N.leaf.put (some (.slice b 0 n (.least (n+1) 2))) 0).put (some (.int .i64 (.ofNat i))) 1).put (some (.slice vb 0 1 (.known 1))) 2) (by rfl)<|Pt 9 Z<|O Z (oy (e:=67) (sz:=2) Y Y Z (lC Z<|Nat.le_of_lt hi) B B) Z<|OO 5 Z<|O Z (rQ Z Z Z (e:=67) Y Z) Z<|On 7 Z<|O Z (az (v:=.bool false) Z Z Z) Z<|Oo 8 Z<|O Z (rQ Z Z Z (e:=67) Y Z) Z<|On 8 Z<|O Z (az (v:=.bool false) Z Z (by show some (V.bool<|I (.ofNat i) (.ofNat n))=_;rw[fv];simp;omega)) Z (Pv 3 Z<|Ol 9 Z<|O Z (Mh Z Z Z (e:=67) Y Z Z) Z ?_);refine O Z (az (v:=.bool false) Z Z (by rw[bg B];show(bif Nat.ble (n+1) (n+1) then some (V.bool false) else none)=_;rw[show Nat.ble (n+1) (n+1)=true from by rw[nE_];exact nR_ _];rfl)) Z (Oo 11 Z<|O Z (oy (e:=67) (sz:=2) Y Y Z (oH (cI<|bg B) B) B B) Z<|On 11 Z<|O Z (oy (e:=67) (sz:=2) (len:=n+1) (a:=n+1) Y Y Z (lC (cI<|bg B) B) B B) Z<|O Z (EL Z Z Y F Y Z Z Z aq.g1 aq.g0 (Ne.symm M) Z Z (by rw[lA_,lA_];omega)) Z<|O Z (cV Z) Z<|ON 4 Z<|aS (l:=zp [0,1,2,3,4,5,6,7,8]) Y Y<|P1 4 Z<|al Z Z (oy (e:=67) (sz:=2) (len:=n+1) (a:=n+1) Y Y Z (lC (cI<|bg B) B) B B) Z<|P1 2 Z<|al Z Z (oy (e:=67) (sz:=2) (len:=n+1) (a:=n+1) Y Y Z (lC Z B) B B) Z ?_);refine eM Z Z (AM (e:=67) (sz:=2) (C0:=n-i) (n:=n+1-i) (news:=z++C) (cells':=de (l.take i)++(z++de (l.drop i))) Z Z Z Y Y Z Z (by rw[vy (len:=n+1-i) aq.g0 (by rw[lA_,lA_];omega),show 0+0*2+i*2=(de<|l.take i).length from by omega,List.drop_left,tL_ (by rw[lA_];omega)]) (by show Nat.min (n+1-i) (n+1-(i+1))=n-i;rw[show n+1-(i+1)=n-i by omega];exact Nat.min_eq_right B) B aq.g0 (by rw[A,<-u,List.take_left];exact ux _) (by decide) (by rw[A,<-u,List.take_left,lA_,<-A,lA_];omega) (by rw[A,<-u,List.take_left,<-A];exact Fh B hC2)) Z ⟨aV,?_⟩;replace aq:=aq.pf (.row (de (l.take i)++(z++de (l.drop i))) 67 false)
 refine OS 3 Z (ai Z (PZ 2 Z (O Z (oy (e:=67) (sz:=2) (len:=n+1) (a:=n+1) Y Y Z (lC Z B) B B) Z (vQ 1 Z (O Z (AM (e:=67) (sz:=2) (C0:=1) (n:=1) (news:=ints x.ints) (cells':=de (l.take i++x::l.drop i)) Z Z Z Y Y Z Z (vy (len:=1) aq.g1 (show 0+1*2<=(ints x.ints).length from nR_ 2)) (by show Nat.min 1 (n+1-i)=1;exact Nat.min_eq_left B) (by decide) aq.g0 (show cD (ints x.ints)=true from lN _) (by decide) (by show 0+0*2+i*2+2<=_;rw[lA_,lA_];omega) (by rw[r5,gq];exact KZ (X:=ints x.ints) B hC1.symm)) Z ?_)))));replace aq:=aq.pf (.row (de (l.take i++x::l.drop i)) 67 false);refine OQ 10 Z ?_;exact aA Z Z ⟨Z,aq⟩
theorem wH {K:KP} {x:dw} {vb e:Nat} (u:K vb (.row (ints x.ints) e false)):bR K 2 iV [x] (.slice vb 0 1 (.known 1)):=
 .inr ⟨vb,0,_,_,e,false,Z,.inr ⟨_,Z,nR_ _⟩,u,nR_ 2,(by simp),fun i y h=>by cases i with | zero=>(cases h;rfl) | succ i=>(simp at h)⟩
theorem Ny {G:Cx} {K:KP} {x:dw} {vb:Nat} (u:K vb (.row (ints x.ints) 67 false)) {U:D} {L:Own} (aq:J U K L):vd Tryz.prog G 70 [.ax,.int .i64 (.ofNat 0),.slice vb 0 1 (.known 1)] U fun v U'=>∃M,cQ 2 67 iV [x] v M/\J U' K (M++L):=by
 have hx:=wH u;refine BF (f:=70) Tryz.func70 Z (t:=((N.leaf.put (some (.ax)) 0).put (some (.int .i64 (.ofNat 0))) 1).put (some (.slice vb 0 1 (.known 1))) 2) (by rfl)<|Pt 9 Z<|O Z (J8 (e:=67) (sz:=2) Y Y Z Z) Z<|OO 5 Z<|O Z (rQ Z Z Z (e:=67) Y Z) Z<|On 7 Z<|O Z (az (v:=.bool false) Z Z Z) Z<|Oo 8 Z ?_;refine O Z (bn (v:=.int .i64 (.ofNat 0)) Z Z) Z ?_;refine On 8 Z<|O Z (az (v:=.bool true) Z Z Z) Z<|OO 7 Z<|G3 (R:=iV) (m:=2) (e:=67) aq hx iV.leaf (by simp) (by simp) Z Z Z Z Z Y Y Y Z Z (fun _=>Z) (fun U C news aq z A=>?_);refine OQ 5 Z ?_;exact aA Z Z ⟨[(C,.row news 67 false)],.inr ⟨C,.upto 2,news,67,Z,Z,z,A,.inr ⟨Z,Z⟩,(by simp)⟩,aq⟩
theorem LC {G:Cx} {K:KP} {x:dw} {vb:Nat} (u:K vb (.row (ints x.ints) 67 false)) {l:List dw} {n b e:Nat} {cells:List V} (hn:l.length=n) (hle:n<=1000000) (z:cells.length=l.length*2) (A:∀(i:Nat) (y:dw),l[i]?=some y->iV y ((cells.drop (i*2)).take 2)) {U:D} {L:Own} (aq:J U K ((b,.row cells e false)::L)):vd Tryz.prog G 70 [.slice b 0 n (.known n),.int .i64 (.ofNat n),.slice vb 0 1 (.known 1)] U fun v U'=>∃M,cQ 2 67 iV (l++[x]) v M/\J U' K (M++L):=by
 have hx:=wH u;refine BF (f:=70) Tryz.func70 Z (t:=((N.leaf.put (some (.slice b 0 n (.known n))) 0).put (some (.int .i64 (.ofNat n))) 1).put (some (.slice vb 0 1 (.known 1))) 2) (by rfl)<|Pt 9 Z<|O Z (J7 (e:=67) (sz:=2) Y Y Z Z) Z<|OO 5 Z<|O Z (rQ Z Z Z (e:=67) Y Z) Z<|On 7 Z<|O Z (az (v:=.bool false) Z Z Z) Z<|Oo 8 Z<|O Z (rQ Z Z Z (e:=67) Y Z) Z<|On 8 Z<|O Z (az (v:=.bool true) Z Z (by show some (V.bool<|I (.ofNat n) (.ofNat n))=_;rw[fv];simp)) Z (OO 7 Z<|n9 (R:=iV) (m:=2) (e:=67) aq hx iV.leaf (by simp) B B (.inl Z) Z Z Z Z Z Y Y Y Z Z (fun _=>Z) (fun U Q c9 news W aq C E F=>?_));refine OQ 5 Z ?_;exact aA Z Z ⟨[(Q,.row (cells++news) W false)],qf z A C E (by rw[hn]) F (by show n+1<=1048576;omega),aq⟩
theorem LF {G:Cx} {K:KP} {x:dw} {vb:Nat} (u:K vb (.row (ints x.ints) 67 false)) {l:List dw} {n b:Nat} {cells:List V} (hn:l.length=n) (hle:n<=1000000) (z:cells.length=l.length*2) (A:∀(i:Nat) (y:dw),l[i]?=some y->iV y ((cells.drop (i*2)).take 2)) {U:D} {L:Own} (aq:J U K ((b,.row cells 67 false)::L)):vd Tryz.prog G 70 [.slice b 0 n (.upto 2),.int .i64 (.ofNat n),.slice vb 0 1 (.known 1)] U fun v U'=>∃M,cQ 2 67 iV (l++[x]) v M/\J U' K (M++L):=by
 have hx:=wH u;refine BF (f:=70) Tryz.func70 Z (t:=((N.leaf.put (some (.slice b 0 n (.upto 2))) 0).put (some (.int .i64 (.ofNat n))) 1).put (some (.slice vb 0 1 (.known 1))) 2) (by rfl)<|Pt 9 Z<|O Z (xU (e:=67) (sz:=2) Y Y Z<|lC Z<|nR_ _) Z<|OO 5 Z<|O Z (rQ Z Z Z (e:=67) Y Z) Z<|On 7 Z<|O Z (az (v:=.bool false) Z Z Z) Z<|Oo 8 Z<|O Z (rQ Z Z Z (e:=67) Y Z) Z<|On 8 Z<|O Z (az (v:=.bool true) Z Z (by show some (V.bool<|I (.ofNat n) (.ofNat n))=_;rw[fv];simp)) Z (OO 7 Z<|n9 (R:=iV) (m:=2) (e:=67) aq hx iV.leaf (by simp) B B (.inr ⟨Z,Z⟩) Z Z Z Z Z Y Y Y Z Z (fun _=>Z) (fun U Q c9 news W aq C E F=>?_));refine OQ 5 Z ?_;exact aA Z Z ⟨[(Q,.row (cells++news) W false)],qf z A C E (by rw[hn]) F (by show n+1<=1048576;omega),aq⟩
theorem vd.mono {P:Program} {G:Cx} {f:Nat} {args:List V} {U:D} {R R':V->D->Prop} (h:vd P G f args U R) (hq:∀v U',R v U'->R' v U'):vd P G f args U R':=
 let ⟨K,v,U',h1,h2⟩:=h;⟨K,v,U',h1,hq _ _ h2⟩
theorem vu {l:List dw} {x:dw} {i:Nat} (hi:i<=l.length):(l.take i++x::l.drop i).length=l.length+1:=by
 rw[lA_,lT_,List.length_cons,lD_];omega
theorem w6 {l:List dw} {b n e:Nat} {c:pH} (hn:n=l.length) (hc:c= .known n∨(c= .upto 2/\e=67)) (hle:n<=1048576):cQ 2 67 iV l (.slice b 0 n c) [(b,.row (de l) e false)]:=by
 subst hn;exact .inr ⟨b,c,_,e,Z,Z,ed l,fun i y h=>Gg h,hc,hle⟩
theorem yR {P:Program} {G:Cx} {ih:lf} {f:Nat} {U:D} {b n:Nat} {c:pH} {w:V}:pX P G ih f [.slice b 0 n c,.int .i64 (.ofNat n),w] U=lj P G ih f [.slice b 0 n c,.int .i64 (.ofNat n),w] U:=by
 unfold pX;rw[show atEnd [.slice b 0 n c,.int .i64 (.ofNat n),w]=true from Nat.beq_refl n];rfl
theorem BO {P:Program} {G:Cx} {ih:lf} {f:Nat} {U:D} {b n i m:Nat} {w:V} (hi:i<n):pX P G ih f [.slice b 0 n (.known m),.int .i64 (.ofNat i),w] U=lj P G ih f [.slice b 0 n (.known m),.int .i64 (.ofNat i),w] U:=by
 unfold pX
 rw[show atEnd [.slice b 0 n (.known m),.int .i64 (.ofNat i),w]=false from by
  show Nat.beq i n=false;cases u:Nat.beq i n with
  | false=>rfl
  | true=>exact absurd (nB u) B]
 rfl
theorem JR {G:Cx} (R:Plain G) (C:G.fk 70=true) (aa:G.ov 106=true) {K:KP} {l:List dw} {x:dw} {i vb:Nat} {u:V} {M:Own} (z:K vb (.row (ints x.ints) 67 false)) (ho:cQ 2 67 iV l u M) (hi:i<=l.length) (hle:l.length<=1000000) {U:D} {L:Own} (aq:J U K (M++L)):
  bk Tryz.prog G 70 [u,.int .i64 (.ofNat i),.slice vb 0 1 (.known 1)] U fun v U'=>∃M',cQ 2 67 iV (l.take i++x::l.drop i) v M'/\J U' K (M'++L):=by
 rcases ho with ⟨rfl,rfl,rfl⟩ | ⟨b,c,cells,e,rfl,rfl,h3,h4,h5,h6⟩
 ·obtain rfl:i=0:=by simpa using hi
  exact sK R C (fun ih=>Z)<|Ny z aq
 by_cases ab:i=l.length
 ·subst ab;rw[List.take_length,List.drop_length];rcases h5 with rfl | ⟨rfl,rfl⟩
  ·exact sK R C (fun ih=>yR)<|LC z Z hle h3 h4 aq
  exact sK R C (fun ih=>yR)<|LF z Z hle h3 h4 aq
 have E:i<l.length:=by omega
 obtain rfl:=yC l cells h3 h4;have F:b≠vb:=(aq.kept _ _ z).2.2 _ (mS_ ..);have hgv:=(aq.kept _ _ z);rcases h5 with rfl | ⟨rfl,rfl⟩
 ·refine sK R C (fun ih=>BO E) ((JQ (K:=K.sub vb) Z E hle ((aq.Ns z).perm<|List.Perm.swap ..)).mono fun v U' h=>?_);obtain⟨b1,rfl,Q⟩:=h;exact⟨_,w6 (vu hi).symm (.inr ⟨Z,Z⟩) B,J.Nl aq z ((Q.sub (.cons_cons _ (.cons _ (.refl _)))).perm<|List.Perm.swap ..)⟩
 have htwo:= @J.two _ U b vb (.row (de l) 67 false) (.row (ints x.ints) 67 false) (.row (de l) 67 false) (.row (ints x.ints) 67 false) (aq.own _<|mS_ ..).1 hgv.1 F;have W:((l.take i++x::l.drop i).flatMap dw.ints).length=(l.length+1)*2:=by rw[<-uM,<-na,ed,vu hi]
 have A:∀(cs:List V),cs=de (l.take i++x::l.drop i)->(l.length+1)*2<=cs.length/\cs.take ((l.length+1)*2)=ints ((l.take i++x::l.drop i).flatMap dw.ints):=fun cs h=>by
  subst h;have:=ed (l.take i++x::l.drop i);rw[vu hi] at this;exact⟨by omega,by rw[tL_ B,na]⟩
 refine Il (e:=67) (ve:=67) (cells:=de l) (vc:=x.ints) (rs:=(l.take i++x::l.drop i).flatMap dw.ints) (n1:=l.length+1) R C B E F aq.g0 hgv.2.1 (by rw[ed];exact nR_ _) B W ?_ ?_ ?_
 ·refine(JQ (K:=fun _ _=>False) Z E hle htwo).mono fun v U' h=>?_
  obtain⟨b1,rfl,Q⟩:=h;exact⟨b1,_,Z,(List.pairwise_cons.1 Q.ne).1 (vb,.row (ints x.ints) 67 false) (by simp),Q.get 0 Z,Q.get 2 Z,(A _ Z).1,(A _ Z).2⟩
 ·have X:(de l).take (l.length*2)++List.replicate 2 V.any=de l++[V.any,V.any]:=by rw[tL_ (by rw[ed];exact nR_ _)];rfl
  rw[X];have htwo2:= @J.two _ U b vb (.row (de l++[V.any,V.any]) 67 false) (.row (ints x.ints) 67 false) (.row (de l++[V.any,V.any]) 67 false) (.row (ints x.ints) 67 false) (aq.own _<|mS_ ..).1 hgv.1 F;refine(Nx aa (K:=fun _ _=>False) Z E hle F htwo2).mono fun v U' h=>?_
  obtain⟨rfl,Q⟩:=h;exact⟨b,_,_,Z,nR_ _,F,Q.get 0 Z,Q.get 1 Z,(A _ Z).1,(A _ Z).2⟩
 refine⟨[(U.next,.row (ints ((l.take i++x::l.drop i).flatMap dw.ints)) 67 false)],?_,aq.xq _⟩;rw[<-na];exact w6 (vu hi).symm (.inr ⟨Z,Z⟩) B
end Go.Ev
namespace Go.Ev
variable [Env]
theorem pZ {K:KP} {E1 G T1 T2 T3:Nat} {g:XG} {L:V} {M1 M Q R:Own} {W X b4 C E F:Nat} {u z A:List V} (h1:cQ 1 2 dy g.init L M1) (h2:fH 5 E1 iU g.threads u M) (h3:fH 2 G iV g.from_ z Q) (h4:fH 2 G iV g.order A R)
  (k1:∀e∈M1,K e.1 e.2) (k2:∀e∈M,K e.1 e.2) (k3:∀e∈Q,K e.1 e.2) (k4:∀e∈R,K e.1 e.2) (q2:K W (.row u T1 false)) (q3:K X (.row z T2 false)) (q4:K b4 (.row A T3 false))
  (e2:C=g.threads.length) (e3:E=g.from_.length) (e4:F=g.order.length) (l2:g.threads.length<=1048576) (l3:g.from_.length<=1048576) (l4:g.order.length<=1048576):eN K g L (.slice W 0 C (.known C)) (.slice X 0 E (.known E)) (.slice b4 0 F (.known F)):=
 ⟨h1.kq k1,h2.kq k2 q2 e2 l2,h3.kq k3 q3 e3 l3,h4.kq k4 q4 e4 l4⟩
end Go.Ev
namespace Go.Ev
variable [Env]
open Go.Proofs
set_option maxRecDepth 4000
set_option maxHeartbeats 8000000
theorem zQ {g:XG} (h:cd g=0):Mj g:=by
 obtain⟨b1,b2,u,z,b5,A,b7⟩:=cK h;exact⟨by omega,by omega,fun l hl=>by have:=u l hl;omega,by omega,fun l hl=>by have:=mS A z u l hl;omega,by omega,fun l hl=>by have:=j0 h l hl;omega⟩
def EM (K:KP) (L:Own) (g:XG) (th:Int) (e:db) (fr:dw) (pl:Int) (v:V) (U':D):Prop:=
 (∃er,gf g th e fr pl=(none,er)/\v= .tuple [.agg [.ax,.ax,.ax,.ax],.int .i64 er]/\J U' K L)∨
 (∃g' a' b' c' d' M,gf g th e fr pl=(some g',0)/\v= .tuple [.agg [a',b',c',d'],T]/\eN (K.ic M) g' a' b' c' d'/\J U' K (M++L))
theorem vY {G:Cx} (z:Plain G) {K:KP} {L MM:Own} {U:D} {g:XG} {a b c d:V} (aq:J U K (MM++L)) (h:eN (K.ic MM) g a b c d):bk Tryz.prog G 45 [.agg [a,b,c,d]] U fun v U'=>v= .int .i64 (cd g)/\J U' K (MM++L):=
 (vz z h aq.keeps).mono fun _ _ u=>⟨u.1,J.tk aq u.2⟩
theorem HJ {K:KP} {L MM:Own} {U:D} {g g':XG} {th pl:Int} {e:db} {fr:dw} {a b c d:V} (u:gf g th e fr pl=(some g',0)) (aq:J U K (MM++L)) (h:eN (K.ic MM) g' a b c d):EM K L g th e fr pl (.tuple [.agg [a,b,c,d],T]) U:=.inr ⟨g',a,b,c,d,MM,u,Z,h,aq⟩
theorem mh {α:Type} {K:KP} {R:α->List V->Prop} {x:α} {m vb e:Nat} {cs:List V} (z:R x cs) (hm:cs.length=m) (u:K vb (.row cs e false)):bR K m R [x] (.slice vb 0 1 (.known 1)):=by
 subst hm;refine .inr ⟨vb,0,_,_,e,false,Z,.inr ⟨_,Z,nR_ _⟩,u,?_,(by simp),fun i y h=>?_⟩
 ·rw[List.length_singleton];omega
 cases i with
 | zero=>simp only[List.getElem?_cons_zero,oJ_] at h;subst h;rw[Nat.zero_mul,nA_,List.drop_zero,List.take_length];exact z
 | succ i=>simp at h
theorem zj {G:Cx} (hG:Plain G) (bs:G.fk 70=true) (bt:G.ov 106=true) {K:KP} {g:XG} {a b c d:V} (h:eN K g a b c d) (th pl:Int) (e:db) (fr:dw) {U:D} {L:Own} (aq:J U K L):bk Tryz.prog G 38 [.agg [a,b,c,d],.int .i64 th,.agg [.int .i64 e.kind,.int .i64 e.loc,.int .i64 e.order,.int .i64 e.read,.int .i64 e.write],.agg [.int .i64 fr.ia,.int .i64 fr.index],.int .i64 pl] U (EM K L g th e fr pl):=by
 have h':=h;obtain⟨hi,ht,hf,ho⟩:=h';refine PS hG Tryz.func38 Z<|Pt 2 Z<|kp aq Z (cz Z Z) (fun U b1 aq=>?_);refine kp aq Z (cz Z Z) (fun U b2 aq=>?_);refine kp aq Z (cz Z Z) (fun U b3 aq=>?_);refine kp aq Z (QE (cs:=[.ax,.ax,.ax,.ax])) (fun U b4 aq=>?_);refine On 6 Z<|O Z (QC Z (aq.get 3 Z) (n:=4) (vs:=[_,_,_,_]) Z) Z<|bf Z (Qz Z Z Z) (fun _=>Z) (vz hG h aq) (fun U aq=>?_);refine Pv 3 Z<|aE Z (fun u=>?_) (fun u=>?_)
 ·refine Pt 2 Z (O Z (Qy (places:=[(0,1),(1,1),(2,1),(3,1)]) (zero:=[.ax,.ax,.ax,.ax]) (cs:=[_,_,_,_]) Z) Z<|bO aq Z (QH Z Z Z aq.g0 (m:=4) Z Z (cells':=[_,_,_,_]) Z) Z (fun U aq=>?_));refine OQ 5 Z ?_;exact br Z Z aq.g0 (m:=4) Y Z Z (.inl ⟨_,AX<|bT u,Z,aq.pop.pop.pop.pop⟩)
 refine Ol 7 Z<|ky Z (an Z) (fun a5=>?_) (fun a5=>?_)
 ·refine OO 11 Z (O Z (Qy (places:=[(0,1),(1,1),(2,1),(3,1)]) (zero:=[.ax,.ax,.ax,.ax]) (cs:=[_,_,_,_]) Z) Z<|bO aq Z (QH Z Z Z aq.g0 (m:=4) Z Z (cells':=[_,_,_,_]) Z) Z (fun U aq=>?_));refine OQ 5 Z ?_;exact br Z Z aq.g0 (m:=4) Y Z Z (.inl ⟨_,AY (bj u) a5,Z,aq.pop.pop.pop.pop⟩)
 refine P3 aq 3 [1,3] Z Z<|O Z (QD ht Z Z Z (e:=57) Z) Z<|Pv 4 Z<|aE Z (fun a8=>?_) (fun a8=>?_)
 ·refine Pt 2 Z (O Z (Qy (places:=[(0,1),(1,1),(2,1),(3,1)]) (zero:=[.ax,.ax,.ax,.ax]) (cs:=[_,_,_,_]) Z) Z<|bO aq Z (QH Z Z Z aq.g0 (m:=4) Z Z (cells':=[_,_,_,_]) Z) Z (fun U aq=>?_));refine OQ 5 Z ?_;exact br Z Z aq.g0 (m:=4) Y Z Z (.inl ⟨_,AW (bj u) a5 a8,Z,aq.pop.pop.pop.pop⟩)
 obtain⟨tm,rfl⟩:=qj a5;have bb:tm<g.threads.length:=by have:=mK a8;omega
 obtain⟨C,A⟩:=cm bb;obtain⟨xf,E⟩:=cm (show tm<g.from_.length from by rw[(cK<|sH<|bj u).2.2.2.1];exact bb);refine OV aq 9 [1,3] Z Z<|Qu (e:=57) (m:=1) ht A Z Z Z (cI<|ej (by have:=ht.bG;omega)) (fun ci cg be ch bi=>?_);have hr33':=bi;obtain⟨ck,rfl,bl⟩:=hr33';refine O Z (QF aq be Z Z) Z (O Z (QD bl Z Z Z (e:=56) Z) Z (O Z (Qy (places:=[(0,1),(1,1)]) (zero:=[T,T]) (cs:=[_,_]) Z) Z<|kp aq Z (QE (cs:=[T,T])) (fun U b5 aq=>?_)));refine bO aq Z (QH Z Z Z aq.g0 (m:=2) Z Z (cells':=[_,_]) Z) Z (fun U aq=>?_);refine OW aq 10 [1,0] Z Z<|aE Z (fun W=>?_) (fun W=>?_)
 ·refine Pt 2 Z (O Z (Qy (places:=[(0,1),(1,1),(2,1),(3,1)]) (zero:=[.ax,.ax,.ax,.ax]) (cs:=[_,_,_,_]) Z) Z<|eh aq Z (QH Z Z Z aq.g1 (m:=4) Z Z (cells':=[_,_,_,_]) Z) Z (fun U aq=>?_));refine OQ 5 Z ?_;exact br Z Z aq.g1 (m:=4) Y Z Z (.inl ⟨_,by rw[kO (bj u) A E,show bU (.ofNat C.length) 14=false from bT W];rfl,Z,aq.pop.pop.pop.pop.pop⟩)
 refine Ol 5 Z<|O Z (QC Z (aq.get 3 Z) (n:=5) (vs:=[_,_,_,_,_]) Z) Z<|bf Z (Qz Z Z Z) (fun _=>Z) (kj hG _ aq) (fun U aq=>?_);refine ky Z (an Z) (fun F=>?_) (fun F=>?_)
 ·refine PZ 2 Z<|ky Z (an Z) (fun ar=>?_) (fun ar=>?_)
  ·refine OO 23 Z (O Z (Qy (places:=[(0,1),(1,1),(2,1),(3,1)]) (zero:=[.ax,.ax,.ax,.ax]) (cs:=[_,_,_,_]) Z) Z<|eh aq Z (QH Z Z Z aq.g1 (m:=4) Z Z (cells':=[_,_,_,_]) Z) Z (fun U aq=>?_));refine OQ 5 Z ?_;exact br Z Z aq.g1 (m:=4) Y Z Z (.inl ⟨_,by rw[kO (bj u) A E,show bU (.ofNat C.length) 14=true from bj W];show(bif cT g e pl then _ else _)=_;rw[show cT g e pl=true from by unfold cT;rw[F];show(bif bU pl 1 then true else _)=true;rw[ar];rfl];rfl,Z,aq.pop.pop.pop.pop.pop⟩)
  refine vQ 1 Z (O Z (QC Z (aq.get 4 Z) (n:=4) (vs:=[_,_,_,_]) Z) Z (P3 aq 2 [1,3] Z Z (cH Z (Qz Z Z Z) (fun _=>Z) (tt hG h (fun l hl=>by have:=j0 (sH<|bj u) l hl;omega) _ aq) ?_)));rintro cl U ⟨cn,hM51,aq⟩;replace aq:=aq.aQ;refine O Z (xS hM51 Z Z Z (e:=67) Y Z) Z<|PZ 3 Z<|ky Z (an Z) (fun aY=>?_) (fun aY=>?_)
  ·refine OO 13 Z (O Z (Qy (places:=[(0,1),(1,1),(2,1),(3,1)]) (zero:=[.ax,.ax,.ax,.ax]) (cs:=[_,_,_,_]) Z) Z<|eh aq Z (QH Z Z Z aq.g1 (m:=4) Z Z (cells':=[_,_,_,_]) Z) Z (fun U aq=>?_));refine OQ 5 Z ?_;exact br Z Z aq.g1 (m:=4) Y Z Z (.inl ⟨_,by rw[kO (bj u) A E,show bU (.ofNat C.length) 14=true from bj W];show(bif cT g e pl then _ else _)=_;rw[show cT g e pl=true from by unfold cT;rw[F];show(bif bU pl 1 then true else _)=true;rw[ar];exact aY];rfl,Z,aq.pop.pop.pop.pop.pop⟩)
  refine O Z (QC Z (aq.get 3 Z) (n:=5) (vs:=[_,_,_,_,_]) Z) Z<|bf Z (Qz Z Z Z) (fun _=>Z) (kj hG _ aq) (fun U aq=>?_);refine O Z (cV Z) Z<|ky Z (an Z) (fun a0=>?_) (fun a0=>?_)
  ·exact absurd F (by rw[kA a0];decide)
  refine Oo 11 Z<|O Z (QC Z (aq.get 4 Z) (n:=4) (vs:=[_,_,_,_]) Z) Z<|cH Z (Qz Z Z Z) (fun _=>Z) (xO hG h (zQ<|sH<|bj u) aq) ?_;rintro _ U ⟨u1,M1,b6,bv,M2,b7,bw,M3,b8,b0,M4,rfl,hO,aq⟩;have hOt:=hO.threads;have hOf:=hO.from_;have hOo:=hO.order;refine kp aq Z (QE (cs:=[.ax,.ax,.ax,.ax])) (fun U b9 aq=>?_);refine bO aq Z (QH Z Z Z aq.g0 (m:=4) Z (ah hO.init.leaf.2 Z) (cells':=[_,_,_,_]) Z) Z (fun U aq=>?_);refine ON 3 Z (aS (l:=[(0,[]),(1,[]),(2,[]),(3,[]),(4,[]),(5,[]),(6,[]),(7,[]),(8,[]),(9,[]),(10,[]),(11,[]),(12,[1]),(13,[]),(14,[])]) Y Y<|P4 aq 8 [1,0,1,0] Z Z ?_);obtain⟨utt,Mtt,At,Bt,ab,a1,a2,am⟩:=hOt.at A;subst a2;refine al Z Z (eo (e:=57) (m:=1) Z Y Z (cI<|ej (by have:=ht.bG;omega)) (show tm<g.threads.length from(gA.1 A).1)) Z (al Z Z (ay Z aq.pop.aQ.pop.aQ.pop.aQ.g0 Y (by rw[eF,show 0+tm*1=tm from by omega];exact ab)) Z<|al Z Z (QC Z aq.pop.aQ.pop.aQ.pop.aQ.pop.aQ.pop.pop.pop.g0 (n:=5) (vs:=[_,_,_,_,_]) Z) Z<|j1 aq Z Z (bY (e:=56) (m:=5) (z:=[T,T,T,T,T]) (cs:=[_,_,_,_,_]) Y Y Y Y<|bD Z Z Z Z bJ) (fun _=>Z) (fun U ca aq=>?_));have hpl:=(aq.pull (X:=Mtt) (.there (.there (.cM (.there (.cM (.there ep.nh))))))).perm List.perm_middle;obtain⟨U,ut2t,Mt2t,M,hOt2t,aq⟩:=fJ (P:=Tryz.prog) (ts:= #[57,57]) (t:=57) (e:=56) a1 hpl (mh (R:=iU) (x:=e) (m:=5) Z Z (.inr ⟨Z,Z⟩)) iU.leaf (by simp) (by simp) (by have:=(cK<|sH<|bj u).2.2.1 _ (gB_ A);omega) Z Y Y Y;refine eM Z Z (dM Z Z Z Z Y M) Z ?_;replace aq:=aq.push (.there (.cM (.there (.cM (.there ep.nh)))));refine⟨(bB (bN Z Z Z Z Z (QB Z aq.g0 Z)<|qF _ _ _ _) aV),?_⟩;refine al Z Z (eo (e:=57) (m:=1) Z Y Z (cI<|ej (by have:=ht.bG;omega)) (show tm<g.threads.length from(gA.1 A).1)) Z ?_;have hltt:=(gA.1 ab).1;refine gD aq (.there (.cM (.there (.cM (.there (.cM .here)))))) Z Z (gR Z Z hOt2t.leaf.1 aq.pop.aQ.pop.aQ.pop.aQ.g0 (m:=1) Y Z B<|ah hOt2t.leaf.2 Z) Z (fun U aq=>?_);refine⟨aV,?_⟩;rw[fW hltt] at aq;have hO2t:=am _ _ _ hOt2t;refine OS 3 Z (aS (l:=[(0,[]),(1,[]),(2,[]),(3,[]),(4,[]),(5,[]),(6,[]),(7,[]),(8,[]),(9,[]),(10,[]),(11,[]),(12,[1]),(13,[]),(14,[])]) Y Y<|P4 aq 8 [2,0,2,0] Z Z ?_);obtain⟨utf,Mtf,Af,Bf,ac,a3,a4,ao⟩:=hOf.at E;subst a4
  refine al Z Z (eo (e:=74) (m:=1) Z Y Z (cI<|ej (by have:=ht.bG;omega)) (show tm<g.from_.length from(gA.1 E).1)) Z (al Z Z (ay Z aq.pop.aQ.pop.aQ.g0 Y (by rw[eF,show 0+tm*1=tm from by omega];exact ac)) Z<|al Z Z (QC Z aq.pop.aQ.pop.aQ.pop.aQ.pop.aQ.pop.pop.g0 (n:=2) (vs:=[_,_]) Z) Z<|j1 aq Z Z (bY (e:=67) (m:=2) (z:=[T,T]) (cs:=[_,_]) Y Y Y Y<|bD Z Z Z Z bJ) (fun _=>Z) (fun U cb aq=>?_));have hpl:=(aq.pull (X:=Mtf) (.there (.there (.cM (.there ep.nh))))).perm List.perm_middle;obtain⟨U,ut2f,Mt2f,M,hOt2f,aq⟩:=fJ (P:=Tryz.prog) (ts:= #[74,74]) (t:=74) (e:=67) a3 hpl (mh (R:=iV) (x:=fr) (m:=2) Z Z (.inr ⟨Z,Z⟩)) iV.leaf (by simp) (by simp) (by have:=mS (cK<|sH<|bj u).2.2.2.2.2.1 (cK<|sH<|bj u).2.2.2.1 (cK<|sH<|bj u).2.2.1 _ (gB_ E);omega) Z Y Y Y;refine eM Z Z (dM Z Z Z Z Y M) Z ?_;replace aq:=aq.push (.there (.cM (.there ep.nh)));refine⟨(bB (bN Z Z Z Z Z (QB Z aq.g0 Z)<|qF _ _ _ _) aV),?_⟩;refine al Z Z (eo (e:=74) (m:=1) Z Y Z (cI<|ej (by have:=ht.bG;omega)) (show tm<g.from_.length from(gA.1 E).1)) Z ?_;have hltf:=(gA.1 ac).1;refine gD aq (.there (.cM (.there (.cM .here)))) Z Z (gR Z Z hOt2f.leaf.1 aq.pop.aQ.pop.aQ.g0 (m:=1) Y Z B<|ah hOt2f.leaf.2 Z) Z (fun U aq=>?_);refine⟨aV,?_⟩;rw[fW hltf] at aq;have hO2f:=ao _ _ _ hOt2f;refine OS 3 Z<|Pt 2 Z<|O Z (QC Z aq.pop.aQ.pop.aQ.pop.aQ.pop.aQ.pop.pop.pop.g0 (n:=5) (vs:=[_,_,_,_,_]) Z) Z<|bf Z (Qz Z Z Z) (fun _=>Z) (kj hG _ aq) (fun U aq=>?_);refine Pv 2 Z<|aE Z (fun aa=>?_) (fun aa=>?_)
  ·refine aS (l:=[(0,[]),(1,[]),(2,[]),(3,[]),(4,[]),(5,[]),(6,[]),(7,[]),(8,[]),(9,[]),(10,[]),(11,[]),(12,[]),(13,[]),(14,[1,3]),(15,[]),(16,[])]) Y Y<|P4 aq 3 [3,0,1] Z Z<|al Z Z (QB Z aq.pop.aQ.pop.aQ.pop.aQ.pop.aQ.pop.pop.pop.g0 Z) Z<|P4 aq 3 [3,0,1] Z Z<|al Z Z (QB Z aq.pop.aQ.pop.aQ.pop.aQ.pop.aQ.pop.pop.pop.g0 Z) Z ?_;obtain⟨pm,rfl⟩:=qj ar;have cc:pm+1<=(cu g e.loc).length:=bC aY;obtain⟨ln,xo,ap,aI,co⟩:=xP (show 1<=(cu g e.loc).length from by omega);have ce:pm<=xo.length:=by omega
   have hxo56:=j0 (sH<|bj u) _ (gB_ aI);obtain⟨uto,Mto,Ao,Bo,a7,bm,bo,a9⟩:=hOo.at aI;subst bo;refine al Z Z (eo (e:=74) (m:=1) Z Y Z (cI ap) (show ln<g.order.length from(gA.1 aI).1)) Z<|al Z Z (ay Z aq.pop.aQ.g0 Y (by rw[eF,show 0+ln*1=ln from by omega];exact a7)) Z<|P1 2 Z<|al Z Z (QC Z aq.pop.aQ.pop.aQ.pop.aQ.pop.aQ.g0 (n:=2) (vs:=[_,_]) Z) Z<|j1 aq Z Z (bY (e:=67) (m:=2) (z:=[T,T]) (cs:=[_,_]) Y Y Y Y<|bD Z Z Z Z bJ) (fun _=>Z) (fun U cp aq=>?_);have hpl:=((aq.pull (X:=Mto) (.there (.there ep.nh))).perm List.perm_middle).iu;refine jg Z Z (Qz Z Z Z) (fun _=>Z) (by rw[ej B];exact JR hG bs bt (x:=⟨.ofNat (tm+1),.ofNat C.length⟩) (i:=pm) (.inr ⟨Z,Z⟩) bm ce B hpl) ?_;rintro ut2o U ⟨Mt2o,hOt2o,aq⟩;replace aq:=(aq.weaken<|KP.se _ _ _).push (.there ep.nh);refine⟨(bB (bN Z Z Z Z Z (QB Z aq.g0 Z)<|qF _ _ _ _)<|bB (bN Z Z Z Z Z (QB Z aq.pop.aQ.pop.aQ.pop.aQ.pop.aQ.pop.pop.pop.g0 Z)<|jk _ _) aV),?_⟩;refine al Z Z (eo (e:=74) (m:=1) Z Y Z (cI ap) (show ln<g.order.length from(gA.1 aI).1)) Z ?_;have hlto:=(gA.1 a7).1;refine gD aq (.there (.cM .here)) Z Z (gR Z Z hOt2o.leaf.1 aq.pop.aQ.g0 (m:=1) Y Z B<|ah hOt2o.leaf.2 Z) Z (fun U aq=>?_);refine⟨aV,?_⟩;rw[fW hlto] at aq;have hO2o:=a9 _ _ _ hOt2o;refine OS 3 Z<|Pt 2 Z<|O Z (QC Z aq.g0 (n:=4) (vs:=[_,_,_,_]) Z) Z ?_;have hfew:=zQ (sH<|bj u);replace aq:=aq.app (.there (.cM (.there (.cM (.there (.cM (.there (.cM (.there (.there (.there (.there (.there .base)))))))))))));refine bf Z (Qz Z Z Z) (fun _=>Z) (vY hG aq (pZ (T1:=57) (T2:=74) (T3:=74) (g:=(⟨g.init,g.threads.set tm (C++[e]),g.from_.set tm (xf++[fr]),g.order.set ln (xo.take pm++⟨.ofNat (tm+1),.ofNat C.length⟩::xo.drop pm)⟩:XG)) hO.init hO2t hO2f hO2o (fun y hy=>.inr (by simp[hy])) (fun y hy=>.inr (by rcases List.mem_append.1 hy with hy | hy;(simp[hy]);rcases List.mem_append.1 hy with hy | hy<;>simp[hy])) (fun y hy=>.inr (by rcases List.mem_append.1 hy with hy | hy;(simp[hy]);rcases List.mem_append.1 hy with hy | hy<;>simp[hy])) (fun y hy=>.inr (by rcases List.mem_append.1 hy with hy | hy;(simp[hy]);rcases List.mem_append.1 hy with hy | hy<;>simp[hy])) (.inr (by simp)) (.inr (by simp)) (.inr (by simp)) (by simp) (by simp) (by simp) (by have h1:=hfew.2.1;have h2:=hfew.2.2.2.1;have h3:=hfew.2.2.2.2.2.1;simp;omega) (by have h1:=hfew.2.1;have h2:=hfew.2.2.2.1;have h3:=hfew.2.2.2.2.2.1;simp;omega) (by have h1:=hfew.2.1;have h2:=hfew.2.2.2.1;have h3:=hfew.2.2.2.2.2.1;simp;omega))) (fun U aq=>?_);replace aq:=aq.CN (.there (.cM (.there (.cM (.there (.cM (.there (.cM (.there (.there (.there (.there (.there .base)))))))))))));refine Pv 3 Z<|aE Z (fun Q=>?_) (fun Q=>?_)
   ·refine Pt 2 Z (O Z (Qy (places:=[(0,1),(1,1),(2,1),(3,1)]) (zero:=[.ax,.ax,.ax,.ax]) (cs:=[_,_,_,_]) Z) Z<|cC aq (.there (.cM (.there (.cM (.there (.cM (.there (.cM (.there .here))))))))) Z (QH Z Z Z aq.pop.aQ.pop.aQ.pop.aQ.pop.aQ.pop.g0 (m:=4) Z Z (cells':=[_,_,_,_]) Z) Z (fun U aq=>?_));refine OQ 5 Z ?_;exact br Z Z aq.pop.aQ.pop.aQ.pop.aQ.pop.aQ.pop.g0 (m:=4) Y Z Z (.inl ⟨_,by rw[kO (bj u) A E,show bU (.ofNat C.length) 14=true from bj W];show(bif cT g e (.ofNat (pm+1)) then _ else _)=_;rw[show cT g e (.ofNat (pm+1))=false from by unfold cT;rw[F];show(bif bU (.ofNat (pm+1)) 1 then true else _)=false;rw[ar];exact aY];show(bif I (cd<|eE g tm e fr (.ofNat (pm+1)) C xf) 0 then _ else _)=_;rw[sP (pm:=pm) (fr:=fr) (row:=C) (frow:=xf) (tm:=tm) aa ap aI,bT Q];rfl,Z,aq.pop.aQ.pop.aQ.pop.aQ.pop.aQ.pop.pop.pop.pop.pop⟩)
   refine OK 4 Z<|O Z (QC Z aq.g0 (n:=4) (vs:=[_,_,_,_]) Z) Z<|cC aq (.there (.cM (.there (.cM (.there (.cM (.there (.cM (.there .here))))))))) Z (QH Z Z Z aq.pop.aQ.pop.aQ.pop.aQ.pop.aQ.pop.g0 (m:=4) Z (ah hO.init.leaf.2 Z) (cells':=[_,_,_,_]) Z) Z (fun U aq=>?_);refine Px 4 Z ?_;exact br Z Z aq.pop.aQ.pop.aQ.pop.aQ.pop.aQ.pop.g0 (m:=4) Y Z Z (HJ (by rw[kO (bj u) A E,show bU (.ofNat C.length) 14=true from bj W];show(bif cT g e (.ofNat (pm+1)) then _ else _)=_;rw[show cT g e (.ofNat (pm+1))=false from by unfold cT;rw[F];show(bif bU (.ofNat (pm+1)) 1 then true else _)=false;rw[ar];exact aY];show(bif I (cd<|eE g tm e fr (.ofNat (pm+1)) C xf) 0 then _ else _)=_;rw[sP (pm:=pm) (fr:=fr) (row:=C) (frow:=xf) (tm:=tm) aa ap aI,bj Q];rfl) (aq.app (.there (.cM (.there (.cM (.there (.cM (.there (.cM (.there (.there (.there (.there (.there .base)))))))))))))) (pZ (T1:=57) (T2:=74) (T3:=74) (g:=(⟨g.init,g.threads.set tm (C++[e]),g.from_.set tm (xf++[fr]),g.order.set ln (xo.take pm++⟨.ofNat (tm+1),.ofNat C.length⟩::xo.drop pm)⟩:XG)) hO.init hO2t hO2f hO2o (fun y hy=>.inr (by simp[hy])) (fun y hy=>.inr (by rcases List.mem_append.1 hy with hy | hy;(simp[hy]);rcases List.mem_append.1 hy with hy | hy<;>simp[hy])) (fun y hy=>.inr (by rcases List.mem_append.1 hy with hy | hy;(simp[hy]);rcases List.mem_append.1 hy with hy | hy<;>simp[hy])) (fun y hy=>.inr (by rcases List.mem_append.1 hy with hy | hy;(simp[hy]);rcases List.mem_append.1 hy with hy | hy<;>simp[hy])) (.inr (by simp)) (.inr (by simp)) (.inr (by simp)) (by simp) (by simp) (by simp) (by have h1:=hfew.2.1;have h2:=hfew.2.2.2.1;have h3:=hfew.2.2.2.2.2.1;simp;omega) (by have h1:=hfew.2.1;have h2:=hfew.2.2.2.1;have h3:=hfew.2.2.2.2.2.1;simp;omega) (by have h1:=hfew.2.1;have h2:=hfew.2.2.2.1;have h3:=hfew.2.2.2.2.2.1;simp;omega)))
  exact absurd F (by rw[aa];decide)
 refine PZ 13 Z<|O Z (QC Z (aq.get 3 Z) (n:=5) (vs:=[_,_,_,_,_]) Z) Z<|bf Z (Qz Z Z Z) (fun _=>Z) (kj hG _ aq) (fun U aq=>?_);refine O Z (cV Z) Z<|ky Z (an Z) (fun a0=>?_) (fun a0=>?_)
 ·refine Pv 6 Z<|aE Z (fun a6=>?_) (fun a6=>?_)
  ·refine Pt 2 Z (O Z (Qy (places:=[(0,1),(1,1),(2,1),(3,1)]) (zero:=[.ax,.ax,.ax,.ax]) (cs:=[_,_,_,_]) Z) Z<|eh aq Z (QH Z Z Z aq.g1 (m:=4) Z Z (cells':=[_,_,_,_]) Z) Z (fun U aq=>?_));refine OQ 5 Z ?_;exact br Z Z aq.g1 (m:=4) Y Z Z (.inl ⟨_,by rw[kO (bj u) A E,show bU (.ofNat C.length) 14=true from bj W];show(bif cT g e pl then _ else _)=_;rw[show cT g e pl=true from by unfold cT;rw[F];show(!I pl 0)=true;rw[bT a6];rfl];rfl,Z,aq.pop.pop.pop.pop.pop⟩)
  refine OK 4 Z<|O Z (QC Z (aq.get 4 Z) (n:=4) (vs:=[_,_,_,_]) Z) Z<|cH Z (Qz Z Z Z) (fun _=>Z) (xO hG h (zQ<|sH<|bj u) aq) ?_;rintro _ U ⟨u1,M1,b6,bv,M2,b7,bw,M3,b8,b0,M4,rfl,hO,aq⟩;have hOt:=hO.threads;have hOf:=hO.from_;have hOo:=hO.order;refine kp aq Z (QE (cs:=[.ax,.ax,.ax,.ax])) (fun U b9 aq=>?_);refine bO aq Z (QH Z Z Z aq.g0 (m:=4) Z (ah hO.init.leaf.2 Z) (cells':=[_,_,_,_]) Z) Z (fun U aq=>?_);refine ON 3 Z (aS (l:=[(0,[]),(1,[]),(2,[]),(3,[]),(4,[]),(5,[]),(6,[]),(7,[]),(8,[]),(9,[]),(10,[]),(11,[]),(12,[1]),(13,[]),(14,[])]) Y Y<|P4 aq 8 [1,0,1,0] Z Z ?_);obtain⟨utt,Mtt,At,Bt,ab,a1,a2,am⟩:=hOt.at A;subst a2;refine al Z Z (eo (e:=57) (m:=1) Z Y Z (cI<|ej (by have:=ht.bG;omega)) (show tm<g.threads.length from(gA.1 A).1)) Z (al Z Z (ay Z aq.pop.aQ.pop.aQ.pop.aQ.g0 Y (by rw[eF,show 0+tm*1=tm from by omega];exact ab)) Z<|al Z Z (QC Z aq.pop.aQ.pop.aQ.pop.aQ.pop.aQ.pop.pop.pop.g0 (n:=5) (vs:=[_,_,_,_,_]) Z) Z<|j1 aq Z Z (bY (e:=56) (m:=5) (z:=[T,T,T,T,T]) (cs:=[_,_,_,_,_]) Y Y Y Y<|bD Z Z Z Z bJ) (fun _=>Z) (fun U ca aq=>?_));have hpl:=(aq.pull (X:=Mtt) (.there (.there (.cM (.there (.cM (.there ep.nh))))))).perm List.perm_middle;obtain⟨U,ut2t,Mt2t,M,hOt2t,aq⟩:=fJ (P:=Tryz.prog) (ts:= #[57,57]) (t:=57) (e:=56) a1 hpl (mh (R:=iU) (x:=e) (m:=5) Z Z (.inr ⟨Z,Z⟩)) iU.leaf (by simp) (by simp) (by have:=(cK<|sH<|bj u).2.2.1 _ (gB_ A);omega) Z Y Y Y;refine eM Z Z (dM Z Z Z Z Y M) Z ?_;replace aq:=aq.push (.there (.cM (.there (.cM (.there ep.nh)))));refine⟨(bB (bN Z Z Z Z Z (QB Z aq.g0 Z)<|qF _ _ _ _) aV),?_⟩;refine al Z Z (eo (e:=57) (m:=1) Z Y Z (cI<|ej (by have:=ht.bG;omega)) (show tm<g.threads.length from(gA.1 A).1)) Z ?_;have hltt:=(gA.1 ab).1;refine gD aq (.there (.cM (.there (.cM (.there (.cM .here)))))) Z Z (gR Z Z hOt2t.leaf.1 aq.pop.aQ.pop.aQ.pop.aQ.g0 (m:=1) Y Z B<|ah hOt2t.leaf.2 Z) Z (fun U aq=>?_);refine⟨aV,?_⟩;rw[fW hltt] at aq;have hO2t:=am _ _ _ hOt2t;refine OS 3 Z (aS (l:=[(0,[]),(1,[]),(2,[]),(3,[]),(4,[]),(5,[]),(6,[]),(7,[]),(8,[]),(9,[]),(10,[]),(11,[]),(12,[1]),(13,[]),(14,[])]) Y Y<|P4 aq 8 [2,0,2,0] Z Z ?_);obtain⟨utf,Mtf,Af,Bf,ac,a3,a4,ao⟩:=hOf.at E;subst a4
  refine al Z Z (eo (e:=74) (m:=1) Z Y Z (cI<|ej (by have:=ht.bG;omega)) (show tm<g.from_.length from(gA.1 E).1)) Z (al Z Z (ay Z aq.pop.aQ.pop.aQ.g0 Y (by rw[eF,show 0+tm*1=tm from by omega];exact ac)) Z<|al Z Z (QC Z aq.pop.aQ.pop.aQ.pop.aQ.pop.aQ.pop.pop.g0 (n:=2) (vs:=[_,_]) Z) Z<|j1 aq Z Z (bY (e:=67) (m:=2) (z:=[T,T]) (cs:=[_,_]) Y Y Y Y<|bD Z Z Z Z bJ) (fun _=>Z) (fun U cb aq=>?_));have hpl:=(aq.pull (X:=Mtf) (.there (.there (.cM (.there ep.nh))))).perm List.perm_middle;obtain⟨U,ut2f,Mt2f,M,hOt2f,aq⟩:=fJ (P:=Tryz.prog) (ts:= #[74,74]) (t:=74) (e:=67) a3 hpl (mh (R:=iV) (x:=fr) (m:=2) Z Z (.inr ⟨Z,Z⟩)) iV.leaf (by simp) (by simp) (by have:=mS (cK<|sH<|bj u).2.2.2.2.2.1 (cK<|sH<|bj u).2.2.2.1 (cK<|sH<|bj u).2.2.1 _ (gB_ E);omega) Z Y Y Y;refine eM Z Z (dM Z Z Z Z Y M) Z ?_;replace aq:=aq.push (.there (.cM (.there ep.nh)));refine⟨(bB (bN Z Z Z Z Z (QB Z aq.g0 Z)<|qF _ _ _ _) aV),?_⟩;refine al Z Z (eo (e:=74) (m:=1) Z Y Z (cI<|ej (by have:=ht.bG;omega)) (show tm<g.from_.length from(gA.1 E).1)) Z ?_;have hltf:=(gA.1 ac).1;refine gD aq (.there (.cM (.there (.cM .here)))) Z Z (gR Z Z hOt2f.leaf.1 aq.pop.aQ.pop.aQ.g0 (m:=1) Y Z B<|ah hOt2f.leaf.2 Z) Z (fun U aq=>?_);refine⟨aV,?_⟩;rw[fW hltf] at aq;have hO2f:=ao _ _ _ hOt2f;refine OS 3 Z<|Pt 2 Z<|O Z (QC Z aq.pop.aQ.pop.aQ.pop.aQ.pop.aQ.pop.pop.pop.g0 (n:=5) (vs:=[_,_,_,_,_]) Z) Z<|bf Z (Qz Z Z Z) (fun _=>Z) (kj hG _ aq) (fun U aq=>?_);refine Pv 2 Z<|aE Z (fun aa=>?_) (fun aa=>?_)
  ·exact absurd F (by rw[aa];decide)
  refine Ol 5 Z<|O Z (QC Z aq.g0 (n:=4) (vs:=[_,_,_,_]) Z) Z ?_;have hfew:=zQ (sH<|bj u);replace aq:=aq.app (.there (.cM (.there (.cM (.there (.cM (.there (.cM (.there (.there (.there (.there (.there .base)))))))))))));refine bf Z (Qz Z Z Z) (fun _=>Z) (vY hG aq (pZ (T1:=57) (T2:=74) (T3:=74) (g:=(⟨g.init,g.threads.set tm (C++[e]),g.from_.set tm (xf++[fr]),g.order⟩:XG)) hO.init hO2t hO2f hOo (fun y hy=>.inr (by simp[hy])) (fun y hy=>.inr (by rcases List.mem_append.1 hy with hy | hy;(simp[hy]);rcases List.mem_append.1 hy with hy | hy<;>simp[hy])) (fun y hy=>.inr (by rcases List.mem_append.1 hy with hy | hy;(simp[hy]);rcases List.mem_append.1 hy with hy | hy<;>simp[hy])) (fun y hy=>.inr (by simp[hy])) (.inr (by simp)) (.inr (by simp)) (.inr (by simp)) (by simp) (by simp) (by simp) (by have h1:=hfew.2.1;have h2:=hfew.2.2.2.1;have h3:=hfew.2.2.2.2.2.1;simp;omega) (by have h1:=hfew.2.1;have h2:=hfew.2.2.2.1;have h3:=hfew.2.2.2.2.2.1;simp;omega) (by have h1:=hfew.2.1;have h2:=hfew.2.2.2.1;have h3:=hfew.2.2.2.2.2.1;simp;omega))) (fun U aq=>?_);replace aq:=aq.CN (.there (.cM (.there (.cM (.there (.cM (.there (.cM (.there (.there (.there (.there (.there .base)))))))))))));refine Pv 3 Z<|aE Z (fun Q=>?_) (fun Q=>?_)
  ·refine Pt 2 Z (O Z (Qy (places:=[(0,1),(1,1),(2,1),(3,1)]) (zero:=[.ax,.ax,.ax,.ax]) (cs:=[_,_,_,_]) Z) Z<|cC aq (.there (.cM (.there (.cM (.there (.cM (.there (.cM (.there .here))))))))) Z (QH Z Z Z aq.pop.aQ.pop.aQ.pop.aQ.pop.aQ.pop.g0 (m:=4) Z Z (cells':=[_,_,_,_]) Z) Z (fun U aq=>?_));refine OQ 5 Z ?_;exact br Z Z aq.pop.aQ.pop.aQ.pop.aQ.pop.aQ.pop.g0 (m:=4) Y Z Z (.inl ⟨_,by rw[kO (bj u) A E,show bU (.ofNat C.length) 14=true from bj W];show(bif cT g e pl then _ else _)=_;rw[show cT g e pl=false from by unfold cT;rw[F];show(!I pl 0)=false;rw[bj a6];rfl];show(bif I (cd<|eE g tm e fr pl C xf) 0 then _ else _)=_;rw[vt (pl:=pl) (fr:=fr) (row:=C) (frow:=xf) (tm:=tm) aa,bT Q];rfl,Z,aq.pop.aQ.pop.aQ.pop.aQ.pop.aQ.pop.pop.pop.pop.pop⟩)
  refine OK 4 Z<|O Z (QC Z aq.g0 (n:=4) (vs:=[_,_,_,_]) Z) Z<|cC aq (.there (.cM (.there (.cM (.there (.cM (.there (.cM (.there .here))))))))) Z (QH Z Z Z aq.pop.aQ.pop.aQ.pop.aQ.pop.aQ.pop.g0 (m:=4) Z (ah hO.init.leaf.2 Z) (cells':=[_,_,_,_]) Z) Z (fun U aq=>?_);refine Px 4 Z ?_;exact br Z Z aq.pop.aQ.pop.aQ.pop.aQ.pop.aQ.pop.g0 (m:=4) Y Z Z (HJ (by rw[kO (bj u) A E,show bU (.ofNat C.length) 14=true from bj W];show(bif cT g e pl then _ else _)=_;rw[show cT g e pl=false from by unfold cT;rw[F];show(!I pl 0)=false;rw[bj a6];rfl];show(bif I (cd<|eE g tm e fr pl C xf) 0 then _ else _)=_;rw[vt (pl:=pl) (fr:=fr) (row:=C) (frow:=xf) (tm:=tm) aa,bj Q];rfl) (aq.app (.there (.cM (.there (.cM (.there (.cM (.there (.cM (.there (.there (.there (.there (.there .base)))))))))))))) (pZ (T1:=57) (T2:=74) (T3:=74) (g:=(⟨g.init,g.threads.set tm (C++[e]),g.from_.set tm (xf++[fr]),g.order⟩:XG)) hO.init hO2t hO2f hOo (fun y hy=>.inr (by simp[hy])) (fun y hy=>.inr (by rcases List.mem_append.1 hy with hy | hy;(simp[hy]);rcases List.mem_append.1 hy with hy | hy<;>simp[hy])) (fun y hy=>.inr (by rcases List.mem_append.1 hy with hy | hy;(simp[hy]);rcases List.mem_append.1 hy with hy | hy<;>simp[hy])) (fun y hy=>.inr (by simp[hy])) (.inr (by simp)) (.inr (by simp)) (.inr (by simp)) (by simp) (by simp) (by simp) (by have h1:=hfew.2.1;have h2:=hfew.2.2.2.1;have h3:=hfew.2.2.2.2.2.1;simp;omega) (by have h1:=hfew.2.1;have h2:=hfew.2.2.2.1;have h3:=hfew.2.2.2.2.2.1;simp;omega) (by have h1:=hfew.2.1;have h2:=hfew.2.2.2.1;have h3:=hfew.2.2.2.2.2.1;simp;omega)))
 exact absurd F (by rw[eV a0];decide)
theorem nQ {g:XG} {th pl:Int} {e:db} {fr:dw} {er:Int} (h:gf g th e fr pl=(none,er)):I er 0=false:=by
 have key:er=2∨er=9∨er=3:=by
  unfold gf at h;cases h1:I (cd g) 0 with
  | false=>rw[h1] at h;cases h;exact .inl Z
  | true=>
   rw[h1] at h;cases h2:bU th 1 with
   | true=>rw[h2] at h;cases h;exact .inr (.inl Z)
   | false=>
    rw[h2] at h;cases u:bU (.ofNat g.threads.length) th with
    | true=>rw[u] at h;cases h;exact .inr (.inl Z)
    | false=>
     rw[u] at h;simp only[Bool.not_true,cf] at h;split at h
     ·rename_i row frow _ _;cases h4:bU (.ofNat row.length) 14 with
      | false=>rw[h4] at h;cases h;exact .inr (.inr Z)
      | true=>
       rw[h4] at h;simp only[Bool.not_true,cf] at h;generalize (bif bq e then(bif bU pl 1 then true else bU (.ofNat (cu g e.loc).length) pl) else !I pl 0)=q at h;cases q with
       | true=>cases h;exact .inl Z
       | false=>
        simp only[cf] at h;generalize I (cd _) 0=q2 at h;cases q2 with
        | true=>cases h
        | false=>cases h;exact .inl Z
     cases h;exact .inr (.inl Z)
 rcases key with rfl | rfl | rfl<;>rfl
theorem LI {G:Cx} (hG:Plain G) {K:KP} {k:Nat} {c:XC} (hc:eX k c) {od:List Nat} (ho:fT c=some od) (E:fg (dj c) c.ins.length od) {cv:V} (hi:bR K 6 (iI K k) c.ins cv) {U:D} {L:Own} (aq:J U K L):
  bk Tryz.prog G 113 [.agg [.int .i64 c.aY,cv]] U fun v U'=>∃tb rb ev Me,v= .ptr tb 0/\cQ 5 56 iU (jT k c).events ev Me/\J U' K ((tb,.row (HE c cv (jT k c) rb ev) 131 false)::(rb,.row ((jT k c).aY.map gZ) 2 false)::(Me++L)):=by
 have M:c.aY= .ofNat c.aY.toNat:=by have:=hc.za;show c.aY=((c.aY.toNat:Nat):Int);omega
 have ac:c.aY.toNat<=16:=by have:=hc.xr;omega
 have hol:=qU hc ho;have aa:jo c=od.length:=by unfold jo;rw[ho];rfl
 have hlen:=hc.len;have hB0:jT k c=vj k c od.length (hU c):=by unfold jT;rw[aa];rfl
 refine PS hG Tryz.func113 Z<|Pt 2 Z<|kp aq Z (cz Z Z) (fun U b1 aq=>?_);refine ON 4 Z<|aS (l:=zp [0,1,2,3,4,5,6]) Y Y<|al Z Z (QC Z aq.g0 (n:=2) (vs:=[_,_]) Z) Z<|P4 aq 2 [0,0] Z Z<|j1 aq Z Z (k9 (e:=2) (w:=8) (z:=[gZ 0]) Y Y Y Y (show _=some (V.int .i64 (.ofNat c.aY.toNat)) from cI M) (show _=some (V.int .i64 (.ofNat c.aY.toNat)) from cI M) B B) (fun _=>Z) (fun U F aq=>?_);rw[iT (f:=gZ)] at aq;refine al Z Z (Qy (places:=[(0,2),(2,1),(3,1),(4,1),(5,1),(6,1),(7,1)]) (zero:=[T,.ax,T,.ax,.ax,T,T,.bool false]) (cs:=[_,_,_,_,_,_,_,_]) Z) Z<|pB aq Z Z (cz Z Z) (fun _=>Z) (fun U X aq=>?_);refine wQ 1 Z ?_;replace aq:J U K ((X,.row (HE c cv (hU c) F .ax) 131 false)::(F,.row ((hU c).aY.map gZ) 2 false)::([]++(b1,.row [.int .i64 c.aY,cv] 33 false)::L)):=by show J U K ((X,.row [_,_,_,.slice F 0 (List.replicate c.aY.toNat (0:Int)).length (.known (List.replicate c.aY.toNat (0:Int)).length),_,_,_,_] 131 false)::_);rw[List.length_replicate];exact aq
 refine OS 3 Z (aN (bp [10,11] (fun j t U=>∃(s:TS) (ev:V) (Me:Own),vm c od s/\s.events.length+j<=od.length/\(∃q,od[q]?=some s.at_/\q<j)/\vj k c od.length (hU c)=vj k c j s/\cQ 5 56 iU s.events ev Me/\J U K ((X,.row (HE c cv s F ev) 131 false)::(F,.row (s.aY.map gZ) 2 false)::(Me++(b1,.row [.int .i64 c.aY,cv] 33 false)::L))) (od.length) ⟨hU c,.ax,[],xE E,by show 0+_<=_;omega,(gO_ E.zero).imp fun q hq=>⟨hq,(gA.1 hq).1⟩,Z,.inl ⟨Z,Z,Z⟩,aq⟩ ?_));clear aq;intro j2 t U ar hI;obtain⟨s,ev,Me,u,hB,Q,he,hO,aq⟩:=hI;obtain⟨oo,rfl⟩:=ar.q0 Z;refine OI 4 Z ?_;obtain⟨q,hq,am⟩:=Q;refine cH Z (Qz Z Z Z) (fun _=>Z) (JV hG hc hi ⟨u.lt E,u.aY,by omega⟩ B hO aq) ?_;rintro _ U ⟨R,Me2,rfl,hO2,aq⟩;refine Pv 2 Z<|aE Z (fun A=>?_) (fun A=>?_)
 ·refine aG<|PW 3 Z ?_;obtain⟨xs,ab⟩:=cm (u.lt E);obtain⟨q2,Q,W⟩:=oe E ab hq A;have hel:=(q7 (k:=k) (c:=c) (s:=s)).2;refine aO ⟨j2-1,by omega,oP Z<|oP Z<|oP Z<|oP Z<|oR _ _,_,R,Me2,u.step E,by omega,⟨q2,W,by omega⟩,he.trans<|sO B A,hO2,aq⟩
 have C:jT k c=(cj k c s).1:=by rw[hB0,he];exact wE B A
 refine OL 3 Z<|aT<|PX 7 Z ?_;exact aA Z Z ⟨X,F,R,Me2,Z,by rw[C];exact hO2,by rw[C];exact aq.sub (.cons_cons _ (.cons_cons _<|dH (.cons _ (.refl _))))⟩
theorem JT {G:Cx} (hG:Plain G) {K:KP} {k:Nat} {c:XC} (hc:eX k c) {od:List Nat} (ho:fT c=some od) (hR:fg (dj c) c.ins.length od) {cv:V} (hi:bR K 6 (iI K k) c.ins cv) {u:TS} (F:vm c od u) (X:lJ c u) (hs:u.asks=true) (bl:u.events.length<=880000) (bm:u.asked<=1000000) (vv:Int) {b1 Q:Nat} {am:V} {Me0:Own} (hO:cQ 5 56 iU u.events am Me0) {U:D} {L:Own}
  (aq:J U K ((b1,.row (HE c cv u Q am) 131 false)::(Q,.row (u.aY.map gZ) 2 false)::(Me0++L))):
  bk Tryz.prog G 114 [.ptr b1 0,.int .i64 vv] U fun v U'=>∃ev' Me',cQ 5 56 iU (dY k c u vv).events ev' Me'/\J U' K ((b1,.row (HE c cv (dY k c u vv) Q ev') 131 false)::(Q,.row ((dY k c u vv).aY.map gZ) 2 false)::(Me'++L)):=by
 have hol:=qU hc ho;have a3:jo c=od.length:=by unfold jo;rw[ho];rfl
 have hlen:=hc.len;have hat:=F.lt hR;obtain⟨x,hx,a4⟩:=X hs;have hrx:=hc.right x (gB_ hx);have a5:c.aY<=u.aY.length:=by have:=F.aY;have:=hc.za;omega
 have ao:u.aY.length<=1000:=by have:=F.aY;have:=hc.xr;omega
 have ac:∃kn:Nat,x.kind= .ofNat kn/\(kn=2∨kn=4∨kn=5∨kn=6):=by
  rcases a4 with e | e | e | e
  ·exact⟨2,e,by omega⟩
  ·exact⟨4,e,by omega⟩
  ·exact⟨5,e,by omega⟩
  exact⟨6,e,by omega⟩
 obtain⟨kn,ac,bo⟩:=ac;obtain⟨rg,ap,a9⟩:=Ah hrx ac B;obtain⟨A,hA⟩:∃A,A=xZ k x u.aY:=⟨_,Z⟩;obtain⟨E,hE⟩:∃E,E=bL A vv:=⟨_,Z⟩;have a6:lh k c u=A:=by unfold lh;rw[hx,hA]
 have hS1:eA k c u vv= {u with events:=u.events++[E],aY:=u.aY.set rg vv,asked:=u.asked+1,at_:=u.at_+1,asks:=false}:=by
  unfold eA FH;rw[hx];dsimp only;rw[a6,<-hE,show x.pc.toNat=rg from by rw[ap];rfl]
 have hB0:dY k c u vv=vj k c od.length (eA k c u vv):=by unfold dY;rw[a3]
 have hin1:=pJ hc hR F X hs vv;refine PS hG Tryz.func114 Z<|Pt 3 Z ?_;have hq:=aq.keeps (M:=[_,_]);refine bf Z (Qz Z Z Z) (fun _=>Z) (kE (M:=[_,_]) aq<|Mb hG (oJ (KP.bX _ _) hi) a5 hx hrx (fK (xs:=u.aY) (KP.gF 1 Z) ao) (KP.gF 0 Z) hq) (fun U aq=>?_);clear hq;rw[<-hA];refine vQ 1 Z<|bf Z (Qz Z Z Z) (fun _=>Z) (CO hG A vv aq) (fun U aq=>?_);rw[<-hE];refine PZ 3 Z<|kp aq Z (QE (cs:=[T,T,T,T,T])) (fun U b3 aq=>?_);refine bO aq Z (QH Z Z Z aq.g0 (m:=5) Z Z (cells':=[_,_,_,_,_]) Z) Z (fun U aq=>?_);refine ON 4 Z<|aS (l:=zp [0,1,2,3,4,5,6,7,8,9,10]) Y Y<|P1 2 Z<|al Z Z (eW Z) Z<|P4 aq 2 [4,1] Z Z<|al Z Z (QC Z aq.g0 (n:=5) (vs:=[_,_,_,_,_]) Z) Z<|j1 aq Z Z (bY (e:=56) (m:=5) (z:=[T,T,T,T,T]) (cs:=[_,_,_,_,_]) Y Y Y Y<|bD Z Z Z Z bJ) (fun _=>Z) (fun U b4 aq=>?_);replace aq:=aq.DL (A:=[_,_,_]);obtain⟨U,C,Me2,aI,hO2,aq⟩:=fJ (P:=Tryz.prog) (ts:= #[57,57]) (t:=57) (e:=56) hO aq (yS (x:=E) (.inr ⟨Z,Z⟩)) iU.leaf (by simp) (by simp) B Z Y Y Y;replace aq:=aq.front (A:=Me2) (M:=[_,_,_]);refine eM Z Z (dM Z Z Z Z Y aI) Z ?_;refine⟨aV,?_⟩;refine al Z Z (eW Z) Z<|al Z Z (QA 4 Z) Z<|z9 aq Z Z (aL Z Z hO2.leaf.1 aq.g1 (m:=1) Y Z (lb Z) (ah hO2.leaf.2 aC) (cells':=[_,_,_,_,_,_,_,_]) Z) Z (fun U aq=>?_);refine⟨aV,?_⟩;refine OS 3 Z<|aS (l:=zp [0,1,2,3,4,5,6,7,8,9,10,11,12,13,14,15,16,17,18]) Y Y ?_;replace aq:=aq.pop;refine wQ 1 Z<|al Z Z (eW Z) Z<|P4 aq 3 [3,0] Z Z<|al Z Z (eW Z) Z<|P4 aq 4 [0,1,0] Z Z<|al Z Z (eW Z) Z<|P4 aq 2 [2,0] Z Z<|Qv (e:=79) (m:=6) hi hx Z Z Z Z Z (fun bs bb a0 be aa=>?_);have hr36raw:=aa;have hr36':=aa;obtain⟨bt,rfl,bi⟩:=hr36';refine ka a0 Z Z Z Z (k:=1) Y (lb Z) (fun _=>Z) (fun bv a1=>?_);refine al Z Z (QF aq a1 Z Z) Z (wQ 1 Z (al Z Z (eo (e:=2) (m:=1) Y Y Z (show _=some (V.int .i64 (.ofNat rg)) from cI ap) B) Z (gD aq (.there .here) Z Z (aL Z Z Z aq.g1 (m:=1) Y Z (by rw[lM_];omega) Z (cells':=((u.aY).set rg vv).map (gZ))<|fb (f:=gZ) (v:=vv) B (by first | omega | rfl)) Z (fun U aq=>?_))));refine⟨aV,?_⟩;refine OS 3 Z<|ai Z<|vQ 1 Z<|O Z (eW Z) Z<|P3 aq 2 [5,0] Z Z<|O Z (az Z Z (show _=some (V.int .i64 (.ofNat (u.asked+1))) from cI (bg B))) Z<|O Z (eW Z) Z<|O Z (QA 5 Z) Z<|bO aq Z (QH Z Z Z aq.g0 (m:=1) Z Z (cells':=[_,_,_,_,_,_,_,_]) Z) Z (fun U aq=>?_)
 refine OO 5 Z<|O Z (eW Z) Z<|P3 aq 2 [2,0] Z Z<|O Z (az Z Z (show _=some (V.int .i64 (.ofNat (u.at_+1))) from cI (bg B))) Z<|O Z (eW Z) Z<|O Z (QA 2 Z) Z<|bO aq Z (QH Z Z Z aq.g0 (m:=1) Z Z (cells':=[_,_,_,_,_,_,_,_]) Z) Z (fun U aq=>?_);refine OO 5 Z<|O Z (eW Z) Z<|O Z (QA 7 Z) Z<|bO aq Z (QH Z Z Z aq.g0 (m:=1) Z Z (cells':=[_,_,_,_,_,_,_,_]) Z) Z (fun U aq=>?_);replace aq:J U K ((b1,.row (HE c cv (eA k c u vv) Q C) 131 false)::(Q,.row ((eA k c u vv).aY.map gZ) 2 false)::(Me2++L)):=by rw[hS1];show J U K ((b1,.row [_,_,_,.slice Q 0 (u.aY.set rg vv).length (.known (u.aY.set rg vv).length),_,_,_,_] 131 false)::_);rw[List.length_set];exact aq
 refine OM 3 Z (bp [58,59] (fun j t U=>∃(s:TS) (ev:V) (Me:Own),vm c od s/\s.events.length+j<=u.events.length+1+od.length/\(∃q,od[q]?=some s.at_/\q<j)/\vj k c od.length (eA k c u vv)=vj k c j s/\cQ 5 56 iU s.events ev Me/\J U K ((b1,.row (HE c cv s Q ev) 131 false)::(Q,.row (s.aY.map gZ) 2 false)::(Me++L))) (od.length) ⟨eA k c u vv,C,Me2,hin1,by rw[hS1];show(u.events++[E]).length+_<=_;rw[lA_];show u.events.length+1+_<=_;omega,(gO_ hin1.at_).imp fun q hq=>⟨hq,(gA.1 hq).1⟩,Z,by rw[hS1];exact hO2,aq⟩ ?_);clear aq;intro j6 t U ar hI;obtain⟨s,ev,Me,R,hB,a7,he,hO,aq⟩:=hI;obtain⟨oo,rfl⟩:=ar.q0 Z;refine OI 4 Z ?_;obtain⟨q,hq,bw⟩:=a7;refine cH Z (Qz Z Z Z) (fun _=>Z) (JV hG hc hi ⟨R.lt hR,R.aY,by omega⟩ B hO aq) ?_;rintro _ U ⟨C,Me2,rfl,hO2,aq⟩;refine Pv 2 Z<|aE Z (fun W=>?_) (fun W=>?_)
 ·refine aG<|PW 3 Z ?_;obtain⟨xs,a8⟩:=cm (R.lt hR);obtain⟨q2,b0,a2⟩:=oe hR a8 hq W;have hel:=(q7 (k:=k) (c:=c) (s:=s)).2;refine aO ⟨j6-1,by omega,oP Z<|oP Z<|oP Z<|oP Z<|oR _ _,_,C,Me2,R.step hR,by omega,⟨q2,a2,by omega⟩,he.trans<|sO B W,hO2,aq⟩
 have ab:dY k c u vv=(cj k c s).1:=by rw[hB0,he];exact wE B W
 refine OL 3 Z<|aT ?_;exact BC Z ⟨C,Me2,by rw[ab];exact hO2,by rw[ab];exact aq⟩
theorem OB {G:Cx} (hG:Plain G) {K:KP} {k:Nat} {c:XC} (hc:eX k c) {od:List Nat} (M:fT c=some od) (hR:fg (dj c) c.ins.length od) {cv:V} (hi:bR K 6 (iI K k) c.ins cv) {A:List Int} {va:V} (hA:bR K 1 dy A va) (aI:A.length<=50) {U:D} {L:Own} (aq:J U K L):
  bk Tryz.prog G 78 [.agg [.int .i64 c.aY,cv],va] U fun v U'=>∃tb rb ev Me,v= .ptr tb 0/\cQ 5 56 iU (gx k c A).events ev Me/\J U' K ((tb,.row (HE c cv (gx k c A) rb ev) 131 false)::(rb,.row ((gx k c A).aY.map gZ) 2 false)::(Me++L))/\vm c od (gx k c A):=by
 have hol:=qU hc M;have hb:=F9 (k:=k) M hR;refine PS hG Tryz.func78 Z<|Pt 2 Z<|kp aq Z (cz Z Z) (fun U b1 aq=>?_);refine OO 5 Z<|O Z (QC Z aq.g0 (n:=2) (vs:=[_,_]) Z) Z<|cH Z (Qz Z Z Z) (fun _=>Z) (LI hG hc M hR hi aq) ?_;rintro _ U ⟨b2,b3,ab,Me0,rfl,hO0,aq⟩;refine On 7 Z (O Z (QD hA Z Z Z (e:=2) Z) Z (OM 4 Z (bp ([7]++rg 12 13) (fun j t U=>∃(i:Nat) (s:TS) (ev:V) (Me:Own),j+i=A.length/\vm c od s/\lJ c s/\s.events.length<=(i+1)*16002/\s.asked<=i/\jR k c A (jT k c)=jR k c (A.drop i) s/\cQ 5 56 iU s.events ev Me/\t.get 12=some (.int .i64 (.ofNat i))/\J U K ((b2,.row (HE c cv s b3 ev) 131 false)::(b3,.row (s.aY.map gZ) 2 false)::(Me++(b1,.row [.int .i64 c.aY,cv] 33 false)::L))) (A.length) ⟨0,jT k c,ab,Me0,Z,hb.1,vO hc,by omega,by have:=(n7 k c (jo c)<|hU c).2;exact Nat.le_of_eq this,Z,hO0,Z,aq⟩ ?_)));clear aq;intro j3 t U ar hI;obtain⟨i,s,ev,Me,a0,C,Q,a1,a2,he,hO,R,aq⟩:=hI;obtain⟨oo,rfl⟩:=ar.q1 R Z;refine Ps 6 Z<|aE Z (fun E=>?_) (fun E=>?_)
 ·refine NP 6 Z ?_;obtain⟨W,z,am⟩:=cL E;refine Qu (e:=2) (m:=1) hA z Z Z Z Z (fun a3 ao X ap aa=>?_);obtain rfl:=aa;refine O Z (QF aq X Z Z) Z<|On 7 Z<|O Z (eW Z) Z<|P3 aq 2 [7,0] Z Z<|ky Z (cV Z) (fun F=>?_) (fun F=>?_)
  ·refine OR 5 Z<|sD Z<|aZ<|bc<|aT<|PX 7 Z ?_;have u:gx k c A=s:=by unfold gx;rw[he];exact Lq z<|kA F
   exact aA Z Z ⟨b2,b3,ev,Me,Z,by rw[u];exact hO,by rw[u];exact aq.sub (.cons_cons _ (.cons_cons _<|dH (.cons _ (.refl _)))),by rw[u];exact C⟩
  have h20x:=F;refine Pv 3 Z (aG (ad (ai Z (PZ 2 Z (cH Z (Qz Z Z Z) (fun _=>Z) (JT hG hc M hR hi C Q (eV h20x) (by have:=bu E;have:(i+1)*16002<=50*16002:=nM_ _ B;omega) B W hO aq) ?_)))));rintro _ U ⟨ac,Me2,hO2,aq⟩;refine af<|aJ<|PW 4 Z ?_;obtain⟨k1,k2,k3⟩:=Dc hc M hR C Q (eV h20x) W;refine aO ⟨j3-1,by omega,oF,i+1,_,ac,Me2,by omega,k1,uv hc _ _,by rw[Nat.add_mul];omega,by rw[k3];omega,he.trans<|Jx z<|eV h20x,hO2,cI<|bg (by have:=hA.bG;omega),aq⟩
 refine OL 3 Z<|aT<|PX 7 Z ?_;have u:gx k c A=s:=by unfold gx;rw[he];exact Jv<|bC E
 exact aA Z Z ⟨b2,b3,ev,Me,Z,by rw[u];exact hO,by rw[u];exact aq.sub (.cons_cons _ (.cons_cons _<|dH (.cons _ (.refl _)))),by rw[u];exact C⟩
theorem JS {G:Cx} (X:Plain G) {K:KP} (ap:rh G K) {k:Nat} {c:XC} {cv:V} (hi:bR K 6 (iI K k) c.ins cv) {l:List db} {lv:V} (hl:bR K 5 iU l lv) (a1:l.length<=40) {U:D} {L:Own} (aq:J U K L):
  bk Tryz.prog G 46 [.agg [.int .i64 c.aY,cv],lv] U fun v U'=>v= .tuple [.agg<|yY (bI k c l).1,.int .i64 (bI k c l).2]/\J U' K L:=by
 refine PS X Tryz.func46 Z<|Pt 2 Z<|kp aq Z (cz Z Z) (fun U b1 aq=>?_);refine kp aq Z (QE (cs:=[T,T,T,T,T,T,T,T,T,T,T])) (fun U b2 aq=>?_);refine On 6 Z<|O Z (QC Z aq.g1 (n:=2) (vs:=[_,_]) Z) Z<|bf Z (Qz Z Z Z) (fun _=>Z) (LJ X ap hi aq) (fun U aq=>?_);refine Pv 9 Z<|aE Z (fun F=>?_) (fun F=>?_)
 ·refine Pt 2 Z (O Z (Qy (places:=[(0,5),(5,5),(10,1)]) (zero:=[T,T,T,T,T,T,T,T,T,T,T]) (cs:=[_,_,_,_,_,_,_,_,_,_,_]) Z) Z<|vQ 1 Z<|bO aq Z (QH Z Z Z aq.g0 (m:=11) Z Z (cells':=[_,_,_,_,_,_,_,_,_,_,_]) Z) Z (fun U aq=>?_));refine OQ 5 Z ?_;exact br Z Z aq.g0 (m:=11) Y Z Z ⟨by rw[show bI k c l=(tV,fE k c) from by unfold bI;rw[show aX (I (fE k c) 0)=true from F];rfl];rfl,aq.pop.pop⟩
 refine OJ 3 Z (aS (l:=[(0,[]),(1,[]),(2,[0]),(3,[]),(4,[])]) Y Y<|al Z Z (QC Z aq.g1 (n:=2) (vs:=[_,_]) Z) Z<|wQ 1 Z ?_);have aa:jn k c=true:=by rw[<-jD];exact bj F
 obtain⟨hc,od,ho,hR⟩:=qL aa;refine jg Z Z (Qz Z Z Z) (fun _=>Z) (Hr X hl B aq) ?_;rintro u16 U ⟨Q,hM16,aq⟩;refine⟨(bB (bN Z Z Z Z Z (QC Z aq.aQ.pop.g0 (n:=2) (vs:=[_,_]) Z)<|gH<|bS (fL _ _)<|bS hi.fD fx) aV),?_⟩;have hq:=aq.keeps;have hr:=OB X hc ho hR (oJ (KP.bX K Q) hi) (hM16.kq (K:=K.ic Q) fun y hy=>.inr hy) (by have:=mj l;omega) hq;refine jg Z Z (Qz Z Z Z) (fun _=>Z) hr ?_;clear hq hr;rintro _ U ⟨tb,rb,ev,Me,rfl,hO,aq,A⟩;replace aq:=aq.weaken (KP.bX K Q);obtain⟨s,ab⟩:∃s,s=gx k c (dg l):=⟨_,Z⟩;rw[<-ab] at hO aq A;obtain⟨K1,hle,u,aq⟩:=J.fy (M:=(tb,.row (HE c cv s rb ev) 131 false)::(rb,.row (s.aY.map gZ) 2 false)::Me) aq;have ht:=u _ (.head _);have hrr:=u _ (.tail _ (.head _));have hev:=hO.kq (K:=K1) fun y hy=>u _ (.tail _ (.tail _ hy));clear u;dsimp only at ht hrr
 have ac:s.aY.length<=1000:=by have:=A.aY;have:=hc.xr;omega
 have hregs:=fK (xs:=s.aY) hrr ac;have hl1:=hl.mono hle fun _ _ h=>h
 have hN:bI k c l=iD k c s l:=by unfold bI;rw[jD,aa,ab];rfl
 refine⟨aV,?_⟩;refine OS 4 Z<|aN<|Pt 4 Z<|bf Z (Qz Z Z Z) (fun _=>Z) (NC X hev ht hl1 aq) (fun U aq=>?_);refine ky Z (cV Z) (fun z=>?_) (fun z=>?_)
 ·refine OO 6 Z (O Z (Qy (places:=[(0,5),(5,5),(10,1)]) (zero:=[T,T,T,T,T,T,T,T,T,T,T]) (cs:=[_,_,_,_,_,_,_,_,_,_,_]) Z) Z<|bO aq Z (QH Z Z Z aq.g0 (m:=11) Z Z (cells':=[_,_,_,_,_,_,_,_,_,_,_]) Z) Z (fun U aq=>?_));refine Px 4 Z<|aF<|aw (?_);exact br Z Z aq.g0 (m:=11) Y Z Z ⟨by rw[hN,show iD k c s l=(tV,2) from by unfold iD;rw[kA z];rfl];rfl,(aq.pop.pop).weaken hle⟩
 refine OO 7 Z<|O Z (eW Z) Z<|O Z (QA 4 Z) Z<|O Z (QB Z (aq.fq ht) Z) Z<|O Z (QD hev Z Z Z (e:=56) Z) Z<|vQ 1 Z<|O Z (QD hl1 Z Z Z (e:=56) Z) Z<|ky Z (az Z Z Z) (fun C=>?_) (fun C=>?_)
 ·refine OO 7 Z<|O Z (eW Z) Z<|O Z (QA 4 Z) Z<|O Z (QB Z (aq.fq ht) Z) Z<|vQ 1 Z<|O Z (QD hl1 Z Z Z (e:=56) Z) Z ?_;obtain⟨ar,E⟩:=cm (bu C);refine Qu (e:=56) (m:=5) hev E Z Z Z Z (fun a2 aI am a0 ao=>?_);obtain rfl:=ao;refine O Z (QG aq am Z Z) Z (O Z (Qy (places:=[(0,5),(5,5),(10,1)]) (zero:=[T,T,T,T,T,T,T,T,T,T,T]) (cs:=[_,_,_,_,_,_,_,_,_,_,_]) Z) Z<|bO aq Z (QH Z Z Z aq.g0 (m:=11) Z Z (cells':=[_,_,_,_,_,_,_,_,_,_,_]) Z) Z (fun U aq=>?_));refine Px 4 Z<|aF<|aw (?_);exact br Z Z aq.g0 (m:=11) Y Z Z ⟨by rw[hN,show iD k c s l=(⟨ar,gw,0⟩,0) from by unfold iD;rw[eV z,E];rfl];rfl,(aq.pop.pop).weaken hle⟩
 refine OO 7 Z<|O Z (eW Z) Z<|O Z (QA 7 Z) Z<|ky Z (QB Z (aq.fq ht) Z) (fun R=>?_) (fun R=>?_)
 ·refine OO 7 Z ?_;obtain⟨xs,W⟩:=cm (A.lt hR);have hrx:=hc.right xs (gB_ W);refine bf Z (Qz Z Z Z) (fun _=>Z) (Mb X (oJ hle hi) (by have:=A.aY;have:=hc.za;omega) W hrx hregs ht aq) (fun U aq=>?_);refine O Z (Qy (places:=[(0,5),(5,5),(10,1)]) (zero:=[T,T,T,T,T,T,T,T,T,T,T]) (cs:=[_,_,_,_,_,_,_,_,_,_,_]) Z) Z<|bO aq Z (QH Z Z Z aq.g0 (m:=11) Z Z (cells':=[_,_,_,_,_,_,_,_,_,_,_]) Z) Z (fun U aq=>?_);refine Px 4 Z<|aF<|aw (?_);exact br Z Z aq.g0 (m:=11) Y Z Z ⟨by rw[hN,show iD k c s l=(⟨lr,xZ k xs s.aY,0⟩,0) from by unfold iD;rw[eV z,gN_<|bC C,R];show((⟨lr,lh k c s,0⟩:ji),(0:Int))=_;unfold lh;rw[W]];rfl,(aq.pop.pop).weaken hle⟩
 refine OP 6 Z (Pt 3 Z (O Z (eW Z) Z (O Z (QA 6 Z) Z (O Z (QB Z (aq.fq ht) Z) Z (O Z (Qy (places:=[(0,5),(5,5),(10,1)]) (zero:=[T,T,T,T,T,T,T,T,T,T,T]) (cs:=[_,_,_,_,_,_,_,_,_,_,_]) Z) Z<|bO aq Z (QH Z Z Z aq.g0 (m:=11) Z Z (cells':=[_,_,_,_,_,_,_,_,_,_,_]) Z) Z (fun U aq=>?_))))));refine Px 4 Z ?_;exact br Z Z aq.g0 (m:=11) Y Z Z ⟨by rw[hN,show iD k c s l=(⟨lr,gw,s.fin⟩,0) from by unfold iD;rw[eV z,gN_<|bC C,R];rfl];rfl,(aq.pop.pop).weaken hle⟩
structure P7 (k:Nat) (init:List Int) (l:List XC):Prop where
 len:l.length<=4
 init:init.length<=6
 pos:0<l.length
 flat:∀c∈l,jn k c=true
def DH (k:Nat) (p:XC×List db):Int:=(bI k p.1 p.2).1.fin
theorem tQ {k:Nat}:∀{l:List XC} {g:List (List db)},l.length=g.length->(∀(i:Nat) (c:XC) (r:List db),l[i]?=some c->g[i]?=some r->I (bI k c r).2 0=true)->pV k l g=some ((l.zip g).map<|DH k)
 | [],[],_,_=>rfl
 | [],_::_,h,_=>by simp at h
 | _::_,[],h,_=>by simp at h
 | c::l,r::g,h,u=>by
  have h0:=u 0 c r Z Z;have:=tQ (k:=k) (l:=l) (g:=g) (by simpa using h) fun i c r h1 h2=>u (i+1) c r (by simpa using h1) (by simpa using h2)
  show(bif I (bI k c r).2 0 then(pV k l g).map fun e=>(bI k c r).1.fin::e else none)=_;rw[h0,this];rfl
theorem tR {k:Nat}:∀{l:List XC} {g:List (List db)} {i:Nat} {c:XC} {r:List db},l[i]?=some c->g[i]?=some r->I (bI k c r).2 0=false->pV k l g=none
 | c'::l,r'::g,0,c,r,h1,h2,h=>by
  simp only[List.getElem?_cons_zero,oJ_] at h1 h2;subst h1;subst h2;show(bif I (bI k c' r').2 0 then _ else none)=none;rw[h];rfl
 | c'::l,r'::g,i+1,c,r,h1,h2,h=>by
  have:=tR (k:=k) (l:=l) (g:=g) (i:=i) (by simpa using h1) (by simpa using h2) h;show(bif I (bI k c' r').2 0 then(pV k l g).map _ else none)=none;rw[this];cases I (bI k c' r').2 0<;>rfl
 | [],_,_,_,_,h1,_,_=>by simp at h1
 | _::_,[],_,_,_,_,h2,_=>by simp at h2
theorem J9 {α β:Type} {l:List α} {g:List β} {i:Nat} {x:α} {y:β} (h1:l[i]?=some x) (h2:g[i]?=some y):(l.zip g)[i]?=some (x,y):=by rw[List.getElem?_zip_eq_some];exact⟨h1,h2⟩
theorem Nv {G:Cx} (hG:Plain G) {K:KP} (a6:rh G K) {k:Nat} {l:List XC} {lv:V} (hl:bR K 2 (mY K k) l lv) {g:XG} {a b c d:V} (hg:eN K g a b c d) {U:D} {L:Own} (aq:J U K L):
  bk Tryz.prog G 12 [lv,.agg [a,b,c,d]] U fun v U'=>∃u M,v= .tuple [u,.bool (fl k l g).isSome]/\cQ 1 3 dy ((fl k l g).getD []) u M/\J U' K (M++L):=by
 refine PS hG Tryz.func12 Z<|Pt 2 Z<|kp aq Z (cz Z Z) (fun U b1 aq=>?_);refine On 7 Z<|O Z (QC Z aq.g0 (n:=4) (vs:=[_,_,_,_]) Z) Z<|bf Z (Qz Z Z Z) (fun _=>Z) (vz hG hg aq) (fun U aq=>?_);refine vQ 1 Z<|ky Z (an Z) (fun Q=>?_) (fun Q=>?_)
 ·refine OQ 18 Z ?_;have R:fl k l g=none:=by unfold fl;rw[show aX (I (cd g) 0)=true from Q];rfl
  exact bV Z Z Z ⟨.ax,[],by rw[R];rfl,by rw[R];exact .inl ⟨Z,Z,Z⟩,aq.pop⟩
 refine vQ 1 Z<|O Z (QD hl Z Z Z (e:=33) Z) Z<|P3 aq 2 [1,0] Z Z<|O Z (QD hg.threads Z Z Z (e:=57) Z) Z<|Pv 4 Z<|aE Z (fun W=>?_) (fun W=>?_)
 ·refine Pu 8 Z ?_;have R:fl k l g=none:=by unfold fl;rw[show aX (I (cd g) 0)=false from Q,show aX (I (.ofNat l.length) (.ofNat g.threads.length))=true from W];rfl
  exact bV Z Z Z ⟨.ax,[],by rw[R];rfl,by rw[R];exact .inl ⟨Z,Z,Z⟩,aq.pop⟩
 refine OK 5 Z<|O Z (QD hl Z Z Z (e:=33) Z) Z ?_;have a7:cd g=0:=eqv (bj Q);obtain⟨b1_,_,b3_,_⟩:=cK a7;have ao:l.length=g.threads.length:=dB (bj W);obtain⟨F,hF⟩:∃F,F=DH k:=⟨_,Z⟩;have aa:(l.zip g.threads).length=l.length:=by rw[List.length_zip,ao];omega
 refine gT aq Z (k9 (e:=3) (w:=8) (z:=[gZ 0]) Y Y Y Y Z Z B B) (fun _=>Z) (fun U b2 aq=>?_);rw[iT (f:=gZ)] at aq;rw[show List.replicate l.length 0=nf F (l.zip g.threads) 0 from by rw[wq,aa]] at aq;refine On 7 Z (O Z (QD hl Z Z Z (e:=33) Z) Z (OM 4 Z (bp ([4,5]++rg 7 4++rg 27 23) (fun j t U=>∃(i:Nat),j+i=l.length/\(∀(i2:Nat) (c2:XC) (r2:List db),i2<i->l[i2]?=some c2->g.threads[i2]?=some r2->I (bI k c2 r2).2 0=true)/\t.get 27=some (.int .i64 (.ofNat i))/\J U K ((b2,.row ((nf F (l.zip g.threads) i).map gZ) 3 false)::(b1,.row [a,b,c,d] 26 false)::L)) (l.length) ⟨0,Z,fun i2 c2 r2 h=>absurd h (nZ_ _),Z,aq⟩ ?_)));clear aq;intro j5 t U ar hI;obtain⟨i,bi,aY,a0,aq⟩:=hI;obtain⟨oo,rfl⟩:=ar.q1 a0 Z;refine Pt 2 Z<|ky Z (az Z Z Z) (fun ab=>?_) (fun ab=>?_)
 ·refine Om 8 Z<|Pt 3 Z ?_;obtain⟨ap,C,X⟩:=cL ab;refine Qu (e:=33) (m:=2) hl C Z Z Z Z (fun bl a8 a1 a9 a2=>?_);have hr30':=a2;obtain⟨bm,rfl,am⟩:=hr30';refine O Z (QG aq a1 Z Z) Z<|kp aq Z (QE (cs:=[T,.ax])) (fun U b3 aq=>?_);refine vQ 1 Z<|bO aq Z (QH Z Z Z aq.g0 (m:=2) Z (ah Z<|ah am.leaf.2 aC) (cells':=[_,_]) Z) Z (fun U aq=>?_);refine ON 3 Z (aS (l:=[(0,[]),(1,[]),(2,[]),(3,[]),(4,[]),(5,[]),(10,[]),(6,[10]),(7,[]),(8,[]),(9,[]),(11,[]),(12,[])]) Y Y<|al Z Z (QC Z aq.g0 (n:=2) (vs:=[_,_]) Z) Z<|P4 aq 3 [1,2] Z Z ?_);obtain⟨ac,A⟩:=cm (show i<g.threads.length from by rw[<-ao];exact X);refine Qv (e:=57) (m:=1) hg.threads A Z Z Z Z Z (fun bo bb a3 be a4=>?_);have hr37':=a4;obtain⟨bs,rfl,a5⟩:=hr37';refine al Z Z (QF aq a3 Z Z) Z<|pB aq Z Z (QE (cs:=[T,T,T,T,T,T,T,T,T,T,T])) (fun _=>Z) (fun U b4 aq=>?_);refine cA Z Z (Qz Z Z Z) (fun _=>Z) (JS hG a6 am a5 (by have:=b3_ ac (gB_ A);omega) aq) (fun U aq=>?_);refine⟨(bB (iq Z Z Z Z Z (cs:=[T,T,T,T,T,T,T,T,T,T,T]) (e:=87) Y aq.g0 Y) aV),?_⟩;refine P1 3 Z<|kb aq Z Z (QH Z Z Z aq.g0 (m:=11) Z Z (cells':=[_,_,_,_,_,_,_,_,_,_,_]) Z) Z (fun U aq=>?_);refine⟨aV,?_⟩;refine OS 10 Z<|aE Z (fun aI=>?_) (fun aI=>?_)
  ·refine PX 7 Z<|aw<|aF<|aw<|bz<|aF<|aw (?_);have R:fl k l g=none:=by unfold fl;rw[show aX (I (cd g) 0)=false from Q,show aX (I (.ofNat l.length) (.ofNat g.threads.length))=false from W];exact tR C A<|bT aI
   exact bV Z Z Z ⟨.ax,[],by rw[R];rfl,by rw[R];exact .inl ⟨Z,Z,Z⟩,aq.pop.pop.pop.pop⟩
  refine aG<|P2 aq 5 [10,0] Z Z<|O Z (eo (e:=3) (m:=1) Y Y Z Z X) Z ?_;refine cC aq (.there (.there .here)) Z (aL Z Z (show _=some [gZ<|F (ap,ac)] from by rw[hF];rfl) (aq.get 2 Z) (m:=1) Y Z (by rw[lM_];rw[qK B,aa];omega) Z (cells':=((nf F (l.zip g.threads) i).set i<|F (ap,ac)).map (gZ)) (fb (f:=gZ) (v:=(F (ap,ac))) (by rw[qK B,aa];exact X) (by first | omega | rfl))) Z (fun U aq=>?_);rw[yO<|J9 C A] at aq;refine af<|aJ<|PW 4 Z ?_;have aq:=aq.pop;have aq:=aq.pop;refine aO ⟨j5-1,by omega,oF,i+1,by omega,fun i2 c2 r2 bt h1 h2=>(by by_cases e:i2=i;(subst e;rw[C] at h1;rw[A] at h2;cases h1;cases h2;exact bj aI);exact aY i2 c2 r2 B h1 h2),cI<|bg (by have:=hl.bG;omega),aq⟩
 refine ON 4 Z<|OL 3 Z<|aT<|PX 8 Z ?_;have R:fl k l g=some ((l.zip g.threads).map<|DH k):=by unfold fl;rw[show aX (I (cd g) 0)=false from Q,show aX (I (.ofNat l.length) (.ofNat g.threads.length))=false from W];exact tQ ao fun i2 c2 r2 h1 h2=>aY i2 c2 r2 (by have:=(gA.1 h1).1;have:=bC ab;omega) h1 h2
 rw[yN (by have:=bC ab;omega)] at aq;exact bV Z Z Z ⟨_,[(b2,_)],by rw[R];rfl,by rw[R,<-hF];have:=gO (b:=b2) (e:=3) (E:=3) (xs:=(l.zip g.threads).map F) (by rw[lM_];omega);rw[lM_,aa] at this;exact this,aq.sub (.cons_cons _ (.cons _ (.refl _)))⟩
theorem NA {G:Cx} (F:Plain G) {K:KP} {g:XG} {a b c d:V} (Q:eN K g a b c d) (M:∀l∈g.order,l.length<=1000000) (loc:Int) {U:D} {L:Own} (aq:J U K L):
  bk Tryz.prog G 43 [.agg [a,b,c,d],.int .i64 loc] U fun v U'=>v= .int .i64 (jq g loc)/\J U' K L:=by
 refine PS F Tryz.func43 Z<|Pt 2 Z<|kp aq Z (cz Z Z) (fun U b1 aq=>?_);refine OO 5 Z<|O Z (QC Z aq.g0 (n:=4) (vs:=[_,_,_,_]) Z) Z<|vQ 1 Z<|cH Z (Qz Z Z Z) (fun _=>Z) (tt F Q M _ aq) ?_;rintro ac U ⟨am,hM10,aq⟩;obtain⟨R,hle,A,aq⟩:=aq.fy;have hw:=hM10.kq (K:=R) fun y hy=>A _ hy;have hg1:=Q.mono hle;have hb9:=aq.get 0 Z
 refine On 7 Z<|O Z (QD hw Z Z Z (e:=67) Z) Z<|Pv 3 Z<|aE Z (fun u=>?_) (fun u=>?_)
 ·refine Pu 7 Z ?_;exact aA Z Z ⟨cJ (by unfold jq;rw[List.getLast?_eq_none_iff.2<|eN_<|iJ_<|eqv (b:=.ofNat 0) u]),(aq.pop).weaken hle⟩
 refine OJ 3 Z (aS (l:=[(0,[]),(1,[]),(2,[]),(3,[]),(4,[]),(5,[]),(6,[]),(11,[]),(7,[11]),(8,[]),(9,[]),(10,[]),(12,[]),(13,[])]) Y Y<|al Z Z (QC Z aq.g0 (n:=4) (vs:=[_,_,_,_]) Z) Z<|P1 2 Z<|al Z Z (QD hw Z Z Z (e:=67) Z) Z<|wQ 1 Z ?_);have ao:0<(cu g loc).length:=by rcases Nat.eq_zero_or_pos (cu g loc).length with e | e;(rw[e] at u;cases u);exact e
 obtain⟨ap,z⟩:=cm (show(cu g loc).length-1<(cu g loc).length from by omega);refine Qv (e:=67) (m:=2) hw z Z Z Z Z (cI<|kY (b:=1) B hw.bG) (fun ar aa C ab E=>?_);obtain rfl:=E;refine al Z Z (QG aq C Z Z) Z<|pB aq Z Z (QE (cs:=[T,T,T,T,T])) (fun _=>Z) (fun U b2 aq=>?_);refine cA Z Z (Qz Z Z Z) (fun _=>Z) (AF F hg1 _ _ aq) (fun U aq=>?_);refine⟨(bB (iq Z Z Z Z Z (cs:=[T,T,T,T,T]) (e:=56) Y aq.g0 Y) aV),?_⟩;refine P1 3 Z<|kb aq Z Z (QH Z Z Z aq.g0 (m:=5) Z Z (cells':=[_,_,_,_,_]) Z) Z (fun U aq=>?_);refine⟨aV,?_⟩;refine OS 4 Z<|PB aq 7 [4,0] Z Z ?_;exact aA Z Z ⟨cJ (by unfold jq;rw[List.getLast?_eq_getElem?,z]),(aq.pop.pop).weaken hle⟩
def AR (k:Nat) (l:List XC):Prop:=∀c∈l,mn k c/\um k c
theorem HU {G:Cx} (hG:Plain G) {K:KP} {k:Nat} {l:List XC} {lv:V} (hl:bR K 2 (mY K k) l lv) (hF:AR k l) {g:XG} {a b c d:V} (hg:eN K g a b c d) {U:D} {L:Own} (aq:J U K L):
  bk Tryz.prog G 13 [lv,.agg [a,b,c,d]] U fun v U'=>∃u M,v= .tuple [u,.bool (fl k l g).isSome]/\cQ 1 3 dy ((fl k l g).getD []) u M/\J U' K (M++L):=by
 refine PS hG Tryz.func13 Z<|Pt 2 Z<|kp aq Z (cz Z Z) (fun U b1 aq=>?_);refine On 7 Z<|O Z (QC Z aq.g0 (n:=4) (vs:=[_,_,_,_]) Z) Z<|bf Z (Qz Z Z Z) (fun _=>Z) (ox hG hg aq) (fun U aq=>?_);refine vQ 1 Z<|ky Z (an Z) (fun F=>?_) (fun F=>?_)
 ·refine OQ 18 Z ?_;have Q:fl k l g=none:=by unfold fl;rw[show aX (I (cd g) 0)=true from F];rfl
  exact bV Z Z Z ⟨.ax,[],by rw[Q];rfl,by rw[Q];exact .inl ⟨Z,Z,Z⟩,aq.pop⟩
 refine vQ 1 Z<|O Z (QD hl Z Z Z (e:=33) Z) Z<|P3 aq 2 [1,0] Z Z<|O Z (QD hg.threads Z Z Z (e:=57) Z) Z<|Pv 4 Z<|aE Z (fun W=>?_) (fun W=>?_)
 ·refine Pu 8 Z ?_;have Q:fl k l g=none:=by unfold fl;rw[show aX (I (cd g) 0)=false from F,show aX (I (.ofNat l.length) (.ofNat g.threads.length))=true from W];rfl
  exact bV Z Z Z ⟨.ax,[],by rw[Q];rfl,by rw[Q];exact .inl ⟨Z,Z,Z⟩,aq.pop⟩
 refine OK 4 Z ?_;have a3:cd g=0:=eqv (bj F);obtain⟨b1_,_,b3_,_⟩:=cK a3;have aa:l.length=g.threads.length:=dB (bj W);have bm:(l.zip g.threads).length=l.length:=by rw[List.length_zip,aa];omega
 refine Om 10 Z (bp (rg 4 6++rg 21 26) (fun j t U=>∃(i:Nat) (u:V) (M:Own),j+i=l.length/\(∀(i2:Nat) (c2:XC) (r2:List db),i2<i->l[i2]?=some c2->g.threads[i2]?=some r2->I (bI k c2 r2).2 0=true)/\cQ 1 3 dy (((l.zip g.threads).take i).map<|DH k) u M/\t.get 6=some (u)/\t.get 7=some (.int .i64 (.ofNat i))/\J U K (M++((b1,.row [a,b,c,d] 26 false)::L))) (l.length) ⟨0,.ax,[],Z,(fun i2 c2 r2 h=>absurd h (nZ_ _)),cQ.nil,Z,Z,aq⟩ ?_);clear aq;intro j5 t U ar hI;obtain⟨i,u,M,bo,ac,hO,a4,a5,aq⟩:=hI;obtain⟨oo,rfl⟩:=ar.q2 a4 a5 Z;refine OI 5 Z<|O Z (QD hl Z Z Z (e:=33) Z) Z<|Pv 3 Z<|aE Z (fun E=>?_) (fun E=>?_)
 ·refine NO 5 Z (aS (l:=[(0,[]),(1,[]),(2,[]),(3,[]),(4,[]),(5,[]),(6,[]),(7,[]),(8,[]),(13,[]),(9,[13]),(10,[]),(11,[]),(12,[]),(14,[]),(15,[])]) Y Y<|P1 2 Z ?_);obtain⟨am,A⟩:=cm (bu E);refine Qv (e:=33) (m:=2) hl A Z Z Z Z Z (fun bs bb ao be ap=>?_);have hr30':=ap;obtain⟨bt,rfl,aI⟩:=hr30';refine al Z Z (QG aq ao Z Z) Z<|al Z Z (QA 1 Z) Z<|al Z Z (QB Z aq.aQ.g0 Z) Z<|wQ 1 Z ?_;obtain⟨aY,C⟩:=cm (show i<g.threads.length from by rw[<-aa];exact bu E);refine Qv (e:=57) (m:=1) hg.threads C Z Z Z Z Z (fun bv bi a0 bl a1=>?_);have hr35':=a1;obtain⟨bw,rfl,a2⟩:=hr35';refine al Z Z (QF aq a0 Z Z) Z<|pB aq Z Z (QE (cs:=[T,T,T,T,T,T,T,T,T,T,T])) (fun _=>Z) (fun U b2 aq=>?_);obtain⟨a6,a7⟩:=hF am (gB_ A);refine cA Z Z (Qz Z Z Z) (fun _=>Z) (HW hG aI a6 a7 a2 (by have:=b3_ aY (gB_ C);omega) aq) (fun U aq=>?_);refine⟨(bB (iq Z Z Z Z Z (cs:=[T,T,T,T,T,T,T,T,T,T,T]) (e:=87) Y aq.g0 Y) aV),?_⟩;refine P1 3 Z<|kb aq Z Z (QH Z Z Z aq.g0 (m:=11) Z Z (cells':=[_,_,_,_,_,_,_,_,_,_,_]) Z) Z (fun U aq=>?_);refine⟨aV,?_⟩;refine OS 10 Z<|aE Z (fun ab=>?_) (fun ab=>?_)
  ·refine PX 7 Z<|aw<|aF<|aw<|bz<|aF<|aw (?_);have Q:fl k l g=none:=by unfold fl;rw[show aX (I (cd g) 0)=false from F,show aX (I (.ofNat l.length) (.ofNat g.threads.length))=false from W];exact tR A C<|bT ab
   exact bV Z Z Z ⟨.ax,[],by rw[Q];rfl,by rw[Q];exact .inl ⟨Z,Z,Z⟩,aq.pop.aQ.pop⟩
  refine aG<|P2 aq 4 [10,0] Z Z<|gT aq Z (bY (e:=3) (m:=1) (z:=[T]) (cs:=[_]) Y Y Y Y<|bD Z Z Z Z bJ) (fun _=>Z) (fun U b3 aq=>?_);replace aq:=aq.pull (.there (.there .here));replace aq:=aq.pull (.cM<|ep.here (X:=[_]));refine sk (R:=dy) (m:=1) (e:=3) hO aq (eU (m:=1) Z (show dy (DH k (am,aY)) _ from Z)) dy.leaf (by rw[lM_,lT_];show _+1<=_;omega) Z Z Z Z Z Z Z (fun _=>Z) (fun U a8 a9 hO46 aq=>?_);refine PY 2 Z<|aJ<|ad<|ai Z ?_;replace aq:=aq.sub (dH (.cons _ (.cons_cons _ (.refl _))));refine PY 4 Z (aO ⟨j5-1,(by have:=bu E;omega),oF,i+1,a8,a9,(by have:=bu E;omega),(fun i2 c2 r2 b0 h1 h2=>(by by_cases e:i2=i;(subst e;rw[A] at h1;rw[C] at h2;cases h1;cases h2;exact bj ab);exact ac i2 c2 r2 B h1 h2)),(by rw[mi<|J9 A C];exact hO46),Z,cI<|bg (by have:=hl.bG;omega),aq⟩)
 refine OL 3 Z<|aT<|PX 8 Z ?_;have Q:fl k l g=some ((l.zip g.threads).map<|DH k):=by unfold fl;rw[show aX (I (cd g) 0)=false from F,show aX (I (.ofNat l.length) (.ofNat g.threads.length))=false from W];exact tQ aa fun i2 c2 r2 h1 h2=>ac i2 c2 r2 (by have:=(gA.1 h1).1;have:=bC E;omega) h1 h2
 exact bV Z Z Z ⟨u,M,by rw[Q];rfl,by rw[Q];show cQ 1 3 dy ((l.zip g.threads).map<|DH k) _ _;rw[tL_ (by have:=bC E;omega)] at hO;exact hO,aq.sub<|dH (.cons _ (.refl _))⟩
def Qt:XG:=⟨[],[],[],[]⟩
theorem Ff {K:KP}:eN K Qt .ax .ax .ax .ax:=⟨.inl ⟨Z,Z⟩,.inl ⟨Z,Z⟩,.inl ⟨Z,Z⟩,.inl ⟨Z,Z⟩⟩
theorem ND {G:Cx} (R:Plain G) {K:KP}:∀(k:Nat) (x:XE) (vs:List V),ey K k x vs->∀(left:Int) (U:D) (L:Own),J U K L->bk Tryz.prog G 72 [.agg vs,.int .i64 left] U fun v U'=>v= .int .i64 (px k x left)/\J U' K L:=by
 intro k;induction k with
 | zero=>intro x vs h;cases x;exact h.elim
 | succ k ih=>
 intro x vs h left U L aq;obtain⟨op,num,name,kids⟩:=x;obtain⟨v,rfl,hk⟩:=h;refine PS R Tryz.func72 Z<|Pt 2 Z<|kp aq Z (cz Z Z) (fun U b1 aq=>?_);refine OX aq 9 [2,0] Z Z<|O Z (ij Z Z Z Y Z) Z<|Om 12 Z ?_;obtain⟨LL1,aq,hLL1⟩:=aq.named;refine bp ([1,5]++rg 13 18) (fun j t U=>∃(i:Nat) (m:Int),j+i=kids.length/\lq (px k) kids (uH name left)=lq (px k) (kids.drop i) m/\t.get 1=some (.int .i64 m)/\t.get 5=some (.int .i64 (.ofNat i))/\J U K LL1) (kids.length) ⟨0,_,Z,Z,Z,Z,aq⟩ ?_;clear aq;intro W t U ar X;obtain⟨i,m,hj,E,M,Q,aq⟩:=X;subst hLL1;obtain⟨oo,rfl⟩:=ar.q2 M Q Z;refine OU aq 6 [3,0] Z Z<|O Z (QD hk Z Z Z (e:=82) Z) Z<|vQ 1 Z<|ky Z (an Z) (fun A=>?_) (fun A=>?_)
 ·refine Pv 5 Z<|aE Z (fun C=>?_) (fun C=>?_)
  ·refine Oq aq 8 [3,0] Z Z ?_;obtain⟨ao,u,aa⟩:=cL A;refine Qu (e:=82) (m:=4) hk u Z Z Z Z (fun ap ab F ac z=>?_);obtain⟨aI,aY,a0,a1,rfl,am⟩:=z.shape;refine O Z (QG aq F Z Z) Z<|vQ 1 Z<|bf Z (Qz Z Z Z) (fun _=>Z) (ih _ _ z _ _ _ aq) (fun U aq=>?_);refine PY 2 Z<|aJ<|PW 5 Z<|aO ⟨W-1,by omega,oF,i+1,_,by omega,E.trans<|DO u<|bT C,Z,cI<|bg (by have:=hk.bG;omega),aq⟩
  refine OL 3 Z<|aT<|PX 7 Z ?_;exact aA Z Z ⟨cJ (by rw[GI<|bj C] at E;rw[<-E];rfl),aq.pop⟩
 refine OR 8 Z<|bc<|aT<|PX 7 Z ?_;exact aA Z Z ⟨cJ (by rw[GJ<|bC A] at E;rw[<-E];rfl),aq.pop⟩
theorem LG {G:Cx} (u:Plain G) {K:KP} {k:Nat} {x:XE} {vs:List V} {U:D} {L:Own} (aq:J U K L) (h:ey K k x vs) (most:Int):bk Tryz.prog G 44 [.agg vs,.int .i64 most] U fun v U'=>v= .bool (wS k x most)/\J U' K L:=by
 obtain⟨o0,n0,s0,v0,rfl,hk⟩:=h.shape;refine PS u Tryz.func44 Z<|Pt 2 Z<|kp aq Z (cz Z Z) (fun U b1 aq=>?_);refine OO 5 Z<|O Z (QC Z aq.g0 (n:=4) (vs:=[_,_,_,_]) Z) Z<|vQ 1 Z<|bf Z (Qz Z Z Z) (fun _=>Z) (ND u _ _ _ h _ _ _ aq) (fun U aq=>?_);refine Px 5 Z ?_;exact aA Z Z ⟨Z,aq.pop⟩
theorem CP {G:Cx} (hG:Plain G) {K:KP} {k:Nat} {x:XC} {vs:List V} {U:D} {L:Own} (aq:J U K L) (h:mY K k x vs) (most:Int):bk Tryz.prog G 11 [.agg vs,.int .i64 most] U fun v U'=>v= .bool (p5 k most x)/\J U' K L:=by
 have h':=h;obtain⟨v0,rfl,hk⟩:=h';refine PS hG Tryz.func11 Z<|Pt 2 Z<|kp aq Z (cz Z Z) (fun U b1 aq=>?_);refine Ou aq 8 [1,0] Z Z<|O Z (QD hk Z Z Z (e:=79) Z) Z<|Pv 4 Z<|aE Z (fun z=>?_) (fun z=>?_)
 ·refine Pu 7 Z ?_;exact aA Z Z ⟨cB (by unfold p5;rw[z];rfl),aq.pop⟩
 refine Ok 9 Z ?_;obtain⟨LL1,aq,hLL1⟩:=aq.named;refine bp ([4,5,6]++rg 12 37) (fun j t U=>∃(i:Nat),j+i=x.ins.length/\(x.ins.take i).all (sf k)=true/\t.get 5=some (.int .i64 (.ofNat i))/\J U K LL1) (x.ins.length) ⟨0,Z,Z,Z,aq⟩ ?_;clear aq;intro j4 t U ar hI;obtain⟨i,hj,ha,a4,aq⟩:=hI;subst hLL1;obtain⟨oo,rfl⟩:=ar.q1 a4 Z;refine OU aq 6 [1,0] Z Z<|O Z (QD hk Z Z Z (e:=79) Z) Z<|Pv 3 Z<|aE Z (fun M=>?_) (fun M=>?_)
 ·refine NO 5 Z<|PA aq 5 [1,0] Z Z ?_;obtain⟨Q,u,a6⟩:=cL M;refine Qu (e:=79) (m:=6) hk u Z Z Z Z (fun bt a7 X a8 aa=>?_);have hr22':=aa;obtain⟨bv,rfl,E⟩:=hr22';refine cq X Z Z Z (k:=5) Y (lb Z) (fun _=>Z) (fun bw ab=>?_);refine O Z (QF aq ab Z Z) Z<|O Z (QD E Z Z Z (e:=82) Z) Z<|Pv 3 Z<|aE Z (fun C=>?_) (fun C=>?_)
  ·refine PX 6 Z<|aw<|aF<|aw<|bz<|aF<|aw (?_);exact aA Z Z ⟨cB (by unfold p5;rw[z,gG u (by unfold sf;rw[C];rfl)];rfl),aq.pop⟩
  refine OK 5 Z<|OM 3 Z ?_;obtain⟨LL2,aq,hLL2⟩:=aq.named;refine bp ([4,6]++rg 27 22) (fun j t U=>∃(i2:Nat),j+i2=Q.exprs.length/\(Q.exprs.take i2).all (fun e=>wS k e 60)=true/\t.get 6=some (.int .i64 (.ofNat i2))/\J U K LL2) (Q.exprs.length) ⟨0,Z,Z,Z,aq⟩ ?_;clear aq;intro j9 t U ar hI;obtain⟨i2,b0,ac,a5,aq⟩:=hI;subst hLL2;obtain⟨oo,rfl⟩:=ar.q1 a5 Z;refine OU aq 7 [1,0] Z Z<|Qu (e:=79) (m:=6) hk u Z Z Z Z (fun b2 a9 am bb ao=>?_);have hr31':=ao;obtain⟨b3,rfl,ap⟩:=hr31';refine cq am Z Z Z (k:=5) Y (lb Z) (fun _=>Z) (fun b4 aI=>?_);refine O Z (QF aq aI Z Z) Z<|O Z (QD ap Z Z Z (e:=82) Z) Z<|Pv 3 Z<|aE Z (fun R=>?_) (fun R=>?_)
  ·refine NQ aq 9 [1,0] Z Z<|Qu (e:=79) (m:=6) hk u Z Z Z Z (fun b5 be aY bi a0=>?_);have hr41':=a0;obtain⟨b6,rfl,a1⟩:=hr41';refine cq aY Z Z Z (k:=5) Y (lb Z) (fun _=>Z) (fun b7 a2=>?_);refine O Z (QF aq a2 Z Z) Z<|vQ 1 Z ?_;obtain⟨b8,A,bl⟩:=cL R;refine Qu (e:=82) (m:=4) a1 A Z Z Z Z (fun b9 bm a3 bo F=>?_);obtain⟨ca,cb,cc,ce,rfl,bs⟩:=F.shape;refine O Z (QG aq a3 Z Z) Z<|bf Z (Qz Z Z Z) (fun _=>Z) (LG hG aq F _) (fun U aq=>?_);refine O Z (cV Z) Z<|Pv 2 Z<|aE Z (fun W=>?_) (fun W=>?_)
   ·refine PX 6 Z<|aF<|aw<|bz<|aF<|aF<|aw<|bz<|aF<|aw (?_);exact aA Z Z ⟨cB (by unfold p5;rw[z,gG u (by unfold sf;rw[C,gG A (by simpa using W)];rfl)];rfl),aq.pop⟩
   refine aG<|aJ<|PW 5 Z<|aO ⟨j9-1,by omega,oF,i2+1,by omega,eR ac A (by simpa using W),cI<|bg (by have:=E.bG;omega),aq⟩
  refine OL 3 Z<|aT<|aJ<|PW 5 Z<|aO ⟨j4-1,by omega,oF,i+1,by omega,eR ha u (by unfold sf;rw[C,dR ac<|bC R];rfl),cI<|bg (by have:=hk.bG;omega),aq⟩
 refine OL 3 Z<|aT<|PX 6 Z ?_;exact aA Z Z ⟨cB (by unfold p5;rw[z,dR ha<|bC M];rfl),aq.pop⟩
theorem AA {G:Cx} (R:Plain G) {K:KP} {k:Nat} {l:List XC} {v:V} {U:D} {L:Own} (aq:J U K L) (h:bR K 2 (mY K k) l v) (most:Int):bk Tryz.prog G 19 [v,.int .i64 most] U fun v U'=>v= .bool (qR k most l)/\J U' K L:=by
 refine PS R Tryz.func19 Z<|OH 12 Z ?_;obtain⟨LL1,aq,hLL1⟩:=aq.named;refine bp (rg 4 19) (fun j t U=>∃(i:Nat),j+i=l.length/\(l.take i).all (p5 k most)=true/\t.get 5=some (.int .i64 (.ofNat i))/\J U K LL1) (l.length) ⟨0,Z,Z,Z,aq⟩ ?_;clear aq;intro W t U ar X;obtain⟨i,hj,M,Q,aq⟩:=X;subst hLL1;obtain⟨oo,rfl⟩:=ar.q1 Q Z;refine OI 5 Z<|O Z (QD h Z Z Z (e:=33) Z) Z<|vQ 1 Z<|ky Z (an Z) (fun A=>?_) (fun A=>?_)
 ·refine Pv 5 Z<|aE Z (fun C=>?_) (fun C=>?_)
  ·refine NP 8 Z ?_;obtain⟨ao,u,aa⟩:=cL A;refine Qu (e:=33) (m:=2) h u Z Z Z Z (fun ap ab F ac z=>?_);have hr18':=z;obtain⟨aI,rfl,am⟩:=hr18';refine O Z (QG aq F Z Z) Z<|vQ 1 Z<|bf Z (Qz Z Z Z) (fun _=>Z) (CP R aq z _) (fun U aq=>?_);refine O Z (cV Z) Z<|Pv 2 Z<|aE Z (fun E=>?_) (fun E=>?_)
   ·refine PX 6 Z<|aF<|aw<|bz<|aF<|aw (?_);exact aA Z Z ⟨cB (by unfold qR;rw[Kj u (bu C) (by simpa using E)];rfl),aq⟩
   refine aG<|aJ<|PW 5 Z<|aO ⟨W-1,by omega,oF,i+1,by omega,eR M u (by simpa using E),cI<|bg (by have:=h.bG;omega),aq⟩
  refine OL 3 Z<|aT<|Pt 3 Z<|O Z (QD h Z Z Z (e:=33) Z) Z<|Px 5 Z ?_;exact aA Z Z ⟨cB (by unfold qR;rw[Bb M<|bC C];rfl),aq⟩
 refine OR 8 Z<|bc<|aT<|Pt 3 Z<|O Z (QD h Z Z Z (e:=33) Z) Z<|Px 5 Z ?_;exact aA Z Z ⟨cB (by unfold qR;rw[dR (i:=i) (by rw[List.take_take];exact Bb M<|Nat.min_le_left _ _) (by rw[lT_];have:=bC A;omega)];rfl),aq⟩
section
variable {H_:Type} {U:D}
theorem Fe (hn:∀(b:Nat) (o:cG),U.m.get b=some o->b<U.next):∀(fuel:Nat) (d:DataW H_) (vs:List V),Fit Tryz.prog fuel 82 d->dz Tryz.prog U fuel 82 d vs->ey (sw U) fuel (Ax fuel d) vs
  | 0,_,_,hf,_=>hf.elim
  | 1,d,vs,hf,u=>by
    obtain⟨_,h⟩:=gn (m:=4) Tryz.underlying82 Y Y hf u;exact(h 0 _ Z).1.elim
  | fuel+2,d,vs,hf,u=>by
    obtain⟨hl,h⟩:=gn (m:=4) Tryz.underlying82 Y Y hf u
    obtain⟨a,b,c,e,rfl⟩:∃a b c e,vs= [a,b,c,e]:=by
      match vs,hl with
      | [a,b,c,e],_=>exact⟨a,b,c,e,Z⟩
    obtain⟨C,E⟩:Fit Tryz.prog _ 3 (cF d 0)/\dz Tryz.prog U _ 3 (cF d 0) (([a,b,c,e].drop 0).take<|Tryz.prog.cellsOf 3):=h 0 _ Z;obtain⟨F,G⟩:Fit Tryz.prog _ 2 (cF d 1)/\dz Tryz.prog U _ 2 (cF d 1) (([a,b,c,e].drop 1).take<|Tryz.prog.cellsOf 2):=h 1 _ Z;obtain⟨K,L⟩:Fit Tryz.prog _ 9 (cF d 2)/\dz Tryz.prog U _ 9 (cF d 2) (([a,b,c,e].drop 2).take<|Tryz.prog.cellsOf 9):=h 2 _ Z;obtain⟨M,Q⟩:Fit Tryz.prog _ 77 (cF d 3)/\dz Tryz.prog U _ 77 (cF d 3) (([a,b,c,e].drop 3).take<|Tryz.prog.cellsOf 77):=h 3 _ Z;have R:Tryz.prog.cellsOf 3=1:=by kernel_rfl
    have W:Tryz.prog.cellsOf 2=1:=by kernel_rfl
    have X:Tryz.prog.cellsOf 9=1:=by kernel_rfl
    have z:Tryz.prog.cellsOf 77=1:=by kernel_rfl
    have e0:=(iP Tryz.underlying3 C E).1;have e1:=(iP Tryz.underlying2 F G).1;have e2:=Nq Tryz.underlying9 K L;obtain⟨v,A,hs⟩:=fV (m:=4) (Ax fuel) (ey (sw U) fuel) Tryz.underlying77 Y (by decide) hn M Q fun x vs hf u=>Fe hn fuel x vs hf u
    rw[R] at e0;rw[W] at e1;rw[X] at e2;rw[z] at A;simp only[List.drop_zero,List.take_succ_cons,List.take_zero,List.drop_succ_cons,List.cons.injEq,and_true] at e0 e1 e2 A;subst e0;subst e1;subst e2;subst A;show∃w,_= [_,_,_,w]/\bR (sw U) 4 (ey (sw U) (fuel+1)) ((eO<|cF d 3).map<|Ax fuel) w;exact⟨_,Z,hs.yX fun x vs h=>ey.up h⟩
theorem KT (hn:∀(b:Nat) (o:cG),U.m.get b=some o->b<U.next) (fuel:Nat) (d:DataW H_) (vs:List V) (hf:Fit Tryz.prog (fuel+2) 79 d) (z:dz Tryz.prog U (fuel+2) 79 d vs):iI (sw U) fuel (JL fuel d) vs:=by
  obtain⟨hl,h⟩:=gn (m:=6) Tryz.underlying79 Y Y hf z
  obtain⟨a,b,c,e,g,i,rfl⟩:∃a b c e g i,vs= [a,b,c,e,g,i]:=by
    match vs,hl with
    | [a,b,c,e,g,i],_=>exact⟨a,b,c,e,g,i,Z⟩
  obtain⟨C,E⟩:Fit Tryz.prog _ 3 (cF d 0)/\dz Tryz.prog U _ 3 (cF d 0) (([a,b,c,e,g,i].drop 0).take<|Tryz.prog.cellsOf 3):=h 0 _ Z;obtain⟨F,G⟩:Fit Tryz.prog _ 3 (cF d 1)/\dz Tryz.prog U _ 3 (cF d 1) (([a,b,c,e,g,i].drop 1).take<|Tryz.prog.cellsOf 3):=h 1 _ Z;obtain⟨K,L⟩:Fit Tryz.prog _ 3 (cF d 2)/\dz Tryz.prog U _ 3 (cF d 2) (([a,b,c,e,g,i].drop 2).take<|Tryz.prog.cellsOf 3):=h 2 _ Z;obtain⟨M,Q⟩:Fit Tryz.prog _ 3 (cF d 3)/\dz Tryz.prog U _ 3 (cF d 3) (([a,b,c,e,g,i].drop 3).take<|Tryz.prog.cellsOf 3):=h 3 _ Z;obtain⟨R,W⟩:Fit Tryz.prog _ 3 (cF d 4)/\dz Tryz.prog U _ 3 (cF d 4) (([a,b,c,e,g,i].drop 4).take<|Tryz.prog.cellsOf 3):=h 4 _ Z;obtain⟨X,d5⟩:Fit Tryz.prog _ 77 (cF d 5)/\dz Tryz.prog U _ 77 (cF d 5) (([a,b,c,e,g,i].drop 5).take<|Tryz.prog.cellsOf 77):=h 5 _ Z;have c3:Tryz.prog.cellsOf 3=1:=by kernel_rfl
  have u:Tryz.prog.cellsOf 77=1:=by kernel_rfl
  have e0:=(iP Tryz.underlying3 C E).1;have e1:=(iP Tryz.underlying3 F G).1;have e2:=(iP Tryz.underlying3 K L).1;have e3:=(iP Tryz.underlying3 M Q).1;have e4:=(iP Tryz.underlying3 R W).1;obtain⟨v,A,hs⟩:=fV (m:=4) (Ax fuel) (ey (sw U) fuel) Tryz.underlying77 Y (by decide) hn X d5 fun x vs hf z=>Fe hn fuel x vs hf z
  rw[c3] at e0 e1 e2 e3 e4;rw[u] at A;simp only[List.drop_zero,List.take_succ_cons,List.take_zero,List.drop_succ_cons,List.cons.injEq,and_true] at e0 e1 e2 e3 e4 A;subst e0;subst e1;subst e2;subst e3;subst e4;subst A;exact⟨_,Z,hs⟩
theorem KS (hn:∀(b:Nat) (o:cG),U.m.get b=some o->b<U.next) (fuel:Nat) (d:DataW H_) (vs:List V) (hf:Fit Tryz.prog (fuel+4) 33 d) (u:dz Tryz.prog U (fuel+4) 33 d vs):mY (sw U) fuel (CH fuel d) vs:=by
  obtain⟨hl,h⟩:=gn (m:=2) Tryz.underlying33 Y Y hf u
  obtain⟨a,b,rfl⟩:∃a b,vs= [a,b]:=by
    match vs,hl with
    | [a,b],_=>exact⟨a,b,Z⟩
  obtain⟨A,C⟩:Fit Tryz.prog _ 3 (cF d 0)/\dz Tryz.prog U _ 3 (cF d 0) (([a,b].drop 0).take<|Tryz.prog.cellsOf 3):=h 0 _ Z;obtain⟨E,F⟩:Fit Tryz.prog _ 31 (cF d 1)/\dz Tryz.prog U _ 31 (cF d 1) (([a,b].drop 1).take<|Tryz.prog.cellsOf 31):=h 1 _ Z;have G:Tryz.prog.cellsOf 3=1:=by kernel_rfl
  have z:Tryz.prog.cellsOf 31=1:=by kernel_rfl
  have e0:=(iP Tryz.underlying3 A C).1;obtain⟨v,e1,K⟩:=fV (m:=6) (JL fuel) (iI (sw U) fuel) Tryz.underlying31 Y (by decide) hn E F fun x vs hf u=>KT hn fuel x vs hf u
  rw[G] at e0;rw[z] at e1;simp only[List.drop_zero,List.take_succ_cons,List.take_zero,List.drop_succ_cons,List.cons.injEq,and_true] at e0 e1;subst e0;subst e1;exact⟨_,Z,K⟩
theorem IB (hn:∀(b:Nat) (o:cG),U.m.get b=some o->b<U.next) (fuel:Nat) (d:DataW H_) (vs:List V) (hf:Fit Tryz.prog (fuel+5) 27 d) (u:dz Tryz.prog U (fuel+5) 27 d vs):∃v,vs= [v]/\bR (sw U) 2 (mY (sw U) fuel) ((eO d).map<|CH fuel) v:=
  fV (m:=2) (CH fuel) (mY (sw U) fuel) Tryz.underlying27 Y (by decide) hn hf u fun x vs hf u=>KS hn fuel x vs hf u
def xL (d:DataW H_):dw:=⟨m3<|cF d 0,m3<|cF d 1⟩
def CI (d:DataW H_):db:=⟨m3<|cF d 0,m3<|cF d 1,m3<|cF d 2,m3<|cF d 3,m3<|cF d 4⟩
def Nr (d:DataW H_):XG:=⟨(eO<|cF d 0).map m3,(eO<|cF d 1).map fun r=>(eO r).map CI,(eO<|cF d 2).map fun r=>(eO r).map xL,(eO<|cF d 3).map fun r=>(eO r).map xL⟩
theorem Nk {fuel:Nat} {d:DataW H_} {vs:List V} (hf:Fit Tryz.prog (fuel+2) 67 d) (u:dz Tryz.prog U (fuel+2) 67 d vs):iV (xL d) vs:=by
  obtain⟨hl,h⟩:=gn (m:=2) Tryz.underlying67 Y Y hf u
  obtain⟨a,b,rfl⟩:∃a b,vs= [a,b]:=by
    match vs,hl with
    | [a,b],_=>exact⟨a,b,Z⟩
  obtain⟨z,A⟩:Fit Tryz.prog _ 3 (cF d 0)/\dz Tryz.prog U _ 3 (cF d 0) (([a,b].drop 0).take<|Tryz.prog.cellsOf 3):=h 0 _ Z;obtain⟨C,E⟩:Fit Tryz.prog _ 3 (cF d 1)/\dz Tryz.prog U _ 3 (cF d 1) (([a,b].drop 1).take<|Tryz.prog.cellsOf 3):=h 1 _ Z;have F:Tryz.prog.cellsOf 3=1:=by kernel_rfl
  have e0:=(iP Tryz.underlying3 z A).1;have e1:=(iP Tryz.underlying3 C E).1;rw[F] at e0 e1;simp only[List.drop_zero,List.take_succ_cons,List.take_zero,List.drop_succ_cons,List.cons.injEq,and_true] at e0 e1;subst e0;subst e1;rfl
theorem Nj {fuel:Nat} {d:DataW H_} {vs:List V} (hf:Fit Tryz.prog (fuel+2) 56 d) (u:dz Tryz.prog U (fuel+2) 56 d vs):iU (CI d) vs:=by
  obtain⟨hl,h⟩:=gn (m:=5) Tryz.underlying56 Y Y hf u
  obtain⟨a,b,c,e,g,rfl⟩:∃a b c e g,vs= [a,b,c,e,g]:=by
    match vs,hl with
    | [a,b,c,e,g],_=>exact⟨a,b,c,e,g,Z⟩
  obtain⟨z,A⟩:Fit Tryz.prog _ 3 (cF d 0)/\dz Tryz.prog U _ 3 (cF d 0) (([a,b,c,e,g].drop 0).take<|Tryz.prog.cellsOf 3):=h 0 _ Z;obtain⟨C,E⟩:Fit Tryz.prog _ 3 (cF d 1)/\dz Tryz.prog U _ 3 (cF d 1) (([a,b,c,e,g].drop 1).take<|Tryz.prog.cellsOf 3):=h 1 _ Z;obtain⟨F,G⟩:Fit Tryz.prog _ 3 (cF d 2)/\dz Tryz.prog U _ 3 (cF d 2) (([a,b,c,e,g].drop 2).take<|Tryz.prog.cellsOf 3):=h 2 _ Z;obtain⟨K,L⟩:Fit Tryz.prog _ 2 (cF d 3)/\dz Tryz.prog U _ 2 (cF d 3) (([a,b,c,e,g].drop 3).take<|Tryz.prog.cellsOf 2):=h 3 _ Z;obtain⟨M,Q⟩:Fit Tryz.prog _ 2 (cF d 4)/\dz Tryz.prog U _ 2 (cF d 4) (([a,b,c,e,g].drop 4).take<|Tryz.prog.cellsOf 2):=h 4 _ Z;have R:Tryz.prog.cellsOf 3=1:=by kernel_rfl
  have W:Tryz.prog.cellsOf 2=1:=by kernel_rfl
  have e0:=(iP Tryz.underlying3 z A).1;have e1:=(iP Tryz.underlying3 C E).1;have e2:=(iP Tryz.underlying3 F G).1;have e3:=(iP Tryz.underlying2 K L).1;have e4:=(iP Tryz.underlying2 M Q).1;rw[R] at e0 e1 e2;rw[W] at e3 e4;simp only[List.drop_zero,List.take_succ_cons,List.take_zero,List.drop_succ_cons,List.cons.injEq,and_true] at e0 e1 e2 e3 e4;subst e0;subst e1;subst e2;subst e3;subst e4;rfl
theorem GH (hn:∀(b:Nat) (o:cG),U.m.get b=some o->b<U.next) {fuel:Nat} {d:DataW H_} {vs:List V} (hf:Fit Tryz.prog (fuel+5) 26 d) (u:dz Tryz.prog U (fuel+5) 26 d vs):∃a b c e,vs= [a,b,c,e]/\eN (sw U) (Nr d) a b c e:=by
  obtain⟨hl,h⟩:=gn (m:=4) Tryz.underlying26 Y Y hf u
  obtain⟨a,b,c,e,rfl⟩:∃a b c e,vs= [a,b,c,e]:=by
    match vs,hl with
    | [a,b,c,e],_=>exact⟨a,b,c,e,Z⟩
  obtain⟨K,L⟩:Fit Tryz.prog _ 22 (cF d 0)/\dz Tryz.prog U _ 22 (cF d 0) (([a,b,c,e].drop 0).take<|Tryz.prog.cellsOf 22):=h 0 _ Z;obtain⟨M,Q⟩:Fit Tryz.prog _ 23 (cF d 1)/\dz Tryz.prog U _ 23 (cF d 1) (([a,b,c,e].drop 1).take<|Tryz.prog.cellsOf 23):=h 1 _ Z;obtain⟨R,W⟩:Fit Tryz.prog _ 24 (cF d 2)/\dz Tryz.prog U _ 24 (cF d 2) (([a,b,c,e].drop 2).take<|Tryz.prog.cellsOf 24):=h 2 _ Z;obtain⟨X,d3⟩:Fit Tryz.prog _ 24 (cF d 3)/\dz Tryz.prog U _ 24 (cF d 3) (([a,b,c,e].drop 3).take<|Tryz.prog.cellsOf 24):=h 3 _ Z;have z:Tryz.prog.cellsOf 22=1:=by kernel_rfl
  have A:Tryz.prog.cellsOf 23=1:=by kernel_rfl
  have C:Tryz.prog.cellsOf 24=1:=by kernel_rfl
  have c2:Tryz.prog.cellsOf 2=1:=by kernel_rfl
  obtain⟨v0,E,h0⟩:=fV (m:=1) m3 dy Tryz.underlying22 c2 (by decide) hn K L fun x vs hf u=>(iP Tryz.underlying2 hf u).1
  have rowE:∀(x:DataW H_) (vs:List V),Fit Tryz.prog (fuel+3) 57 x->dz Tryz.prog U (fuel+3) 57 x vs->RL (sw U) 5 iU ((eO x).map CI) vs:=fun x vs hf u=>
    fV (m:=5) CI iU Tryz.underlying57 Y (by decide) hn hf u fun x vs hf u=>Nj hf u
  have rowI:∀(x:DataW H_) (vs:List V),Fit Tryz.prog (fuel+3) 74 x->dz Tryz.prog U (fuel+3) 74 x vs->RL (sw U) 2 iV ((eO x).map xL) vs:=fun x vs hf u=>
    fV (m:=2) xL iV Tryz.underlying74 Y (by decide) hn hf u fun x vs hf u=>Nk hf u
  obtain⟨v1,e1,h1⟩:=fV (m:=1) (fun r=>(eO r).map CI) (RL (sw U) 5 iU) Tryz.underlying23 Y (by decide) hn M Q rowE;obtain⟨v2,F,h2⟩:=fV (m:=1) (fun r=>(eO r).map xL) (RL (sw U) 2 iV) Tryz.underlying24 Y (by decide) hn R W rowI;obtain⟨v3,G,h3⟩:=fV (m:=1) (fun r=>(eO r).map xL) (RL (sw U) 2 iV) Tryz.underlying24 Y (by decide) hn X d3 rowI;rw[z] at E;rw[A] at e1;rw[C] at F G;simp only[List.drop_zero,List.take_succ_cons,List.take_zero,List.drop_succ_cons,List.cons.injEq,and_true] at E e1 F G;subst E;subst e1;subst F;subst G;exact⟨_,_,_,_,Z,h0,h1,h2,h3⟩
theorem jc.up:∀{k:Nat} {x:XE},jc k x->jc (k+1) x
  | 0,_,h=>h.elim
  | _+1,.mk _ _ _ _,⟨h1,h2⟩=>⟨h1,fun y hy=>jc.up (h2 y hy)⟩
theorem qO {α:Type} {K:KP} {m:Nat} {R:α->List V->Prop} {l:List α} {v:V} (h:bR K m R l v):∀x∈l,∃vs,R x vs:=fun x hx=>by
  obtain⟨i,hi⟩:=gO_ hx;obtain⟨_,_,_,vs,_,_,_,_,u⟩:=h.at hi;exact⟨vs,u⟩
theorem BI (hn:∀(b:Nat) (o:cG),U.m.get b=some o->b<U.next):∀(fuel:Nat) (d:DataW H_) (vs:List V),Fit Tryz.prog fuel 82 d->dz Tryz.prog U fuel 82 d vs->jc fuel (Ax fuel d)
  | 0,_,_,hf,_=>hf.elim
  | 1,d,vs,hf,u=>by
    obtain⟨_,h⟩:=gn (m:=4) Tryz.underlying82 Y Y hf u;exact(h 0 _ Z).1.elim
  | fuel+2,d,vs,hf,u=>by
    obtain⟨hl,h⟩:=gn (m:=4) Tryz.underlying82 Y Y hf u;obtain⟨A,d2⟩:Fit Tryz.prog _ 9 (cF d 2)/\_:=h 2 _ Z;obtain⟨C,E⟩:Fit Tryz.prog _ 77 (cF d 3)/\dz Tryz.prog U _ 77 (cF d 3) _:=h 3 _ Z;obtain⟨v,e3,F⟩:=fV (m:=4) (Ax fuel) (fun x _=>jc fuel x) Tryz.underlying77 Y (by decide) hn C E fun x vs hf u=>BI hn fuel x vs hf u
    exact⟨Lu Tryz.underlying9 A,fun y hy=>by obtain⟨_,z⟩:=qO F y hy;exact z.up⟩
theorem It (hn:∀(b:Nat) (o:cG),U.m.get b=some o->b<U.next) (fuel:Nat) (d:DataW H_) (vs:List V) (hf:Fit Tryz.prog (fuel+2) 79 d) (u:dz Tryz.prog U (fuel+2) 79 d vs):∀e∈(JL fuel d).exprs,jc fuel e:=by
  obtain⟨hl,h⟩:=gn (m:=6) Tryz.underlying79 Y Y hf u;obtain⟨z,A⟩:Fit Tryz.prog _ 77 (cF d 5)/\dz Tryz.prog U _ 77 (cF d 5) _:=h 5 _ Z;obtain⟨v,e5,C⟩:=fV (m:=4) (Ax fuel) (fun x _=>jc fuel x) Tryz.underlying77 Y (by decide) hn z A fun x vs hf u=>BI hn fuel x vs hf u
  exact fun e he=>by obtain⟨_,h⟩:=qO C e he;exact h
theorem Is (hn:∀(b:Nat) (o:cG),U.m.get b=some o->b<U.next) (fuel:Nat) (d:DataW H_) (vs:List V) (hf:Fit Tryz.prog (fuel+4) 33 d) (u:dz Tryz.prog U (fuel+4) 33 d vs):mn fuel (CH fuel d):=by
  obtain⟨hl,h⟩:=gn (m:=2) Tryz.underlying33 Y Y hf u;obtain⟨z,A⟩:Fit Tryz.prog _ 31 (cF d 1)/\dz Tryz.prog U _ 31 (cF d 1) _:=h 1 _ Z;obtain⟨v,e1,C⟩:=fV (m:=6) (JL fuel) (fun x _=>∀e∈x.exprs,jc fuel e) Tryz.underlying31 Y (by decide) hn z A fun x vs hf u=>It hn fuel x vs hf u
  exact fun x hx=>by obtain⟨_,h⟩:=qO C x hx;exact h
theorem Gx (hn:∀(b:Nat) (o:cG),U.m.get b=some o->b<U.next) (fuel:Nat) (d:DataW H_) (vs:List V) (hf:Fit Tryz.prog (fuel+5) 27 d) (u:dz Tryz.prog U (fuel+5) 27 d vs):∀c∈(eO d).map (CH fuel),mn fuel c:=by
  obtain⟨v,e1,z⟩:=fV (m:=2) (CH fuel) (fun x _=>mn fuel x) Tryz.underlying27 Y (by decide) hn hf u fun x vs hf u=>Is hn fuel x vs hf u
  exact fun c hc=>by obtain⟨_,h⟩:=qO z c hc;exact h
end
section
variable {H_:Type} {enc:TypeId×Value->H_} {w:World}
theorem trod_int {fuel:Nat} {t:TypeId} {cs:List Value} {x:DataW H_×List MemPlace} (hu:Tryz.prog.underlying t=some (.int .i64)) (h:DataW.trod enc Tryz.prog w 0 (fun _=>true) true fuel t cs=some x):∃n,cs= [.int .i64 n]:=by
  cases fuel with
  | zero=>simp[DataW.trod] at h
  | succ fuel=>
    unfold DataW.trod at h;rw[hu] at h;dsimp only at h;split at h<;>first | (rename_i he;cases he;done) | skip
    all_goals first
      | (rename_i k1 k2 n he
         cases he;split at h
         · rename_i hk
           obtain⟨u,_⟩:=hk;subst u;exact⟨n,Z⟩
         · cases h)
      | cases h
def NT (w:World) (v:Value):Prop:=v= .slice none 0 0∨∃(a:Addr) (len cap:Nat) (c:Array Value) (e:TypeId) (fr:Nat×Nat),v= .slice (some a) len cap/\w.heap[a.block]?=some (.cells c e fr)
theorem I0 {base:Nat} {t e:TypeId} {v:Value} (hu:Tryz.prog.underlying t=some (.slice e)) (u:Cell.okWide Tryz.prog w .any base t v):NT w v:=by
  unfold Cell.okWide at u;rw[hu] at u;dsimp only at u;unfold Cell.ok at u;rw[hu] at u;cases v with
  | slice a len cap=>
    cases a with
    | none=>
      try dsimp only at u
      split at u<;>first | (rename_i he;cases he;done) | skip
      all_goals first
        | (rename_i he;cases he;exact .inl Z)
        | (rename_i h1 h2;cases h2;done)
        | exact u.elim
    | some a=>
      obtain⟨_,_,_,aa,row,cells,z,_⟩:=u;unfold World.shape? at z;split at z
      · rename_i c e fr A
        exact .inr ⟨a,len,cap,c,e,fr,Z,A⟩
      · cases z
  | _=>exact u.elim
theorem trodAll_cons {P:Program} {ts:List TypeId} {t:TypeId} {vs:List Value} {ds:List (DataW H_)} {ps:List MemPlace} {sp:Nat->Bool} (h:DataW.TrodAll enc P w 0 sp true (t::ts) vs ds ps):
    ∃v vs' d ds',vs=v::vs'/\ds=d::ds'/\(∃n p,DataW.trod enc P w 0 sp true n t v.cells.toList=some (d,p))/\∃q,DataW.TrodAll enc P w 0 sp true ts vs' ds' q:=by
  match vs,ds,h with
  | v::vs',d::ds',⟨p,q,⟨n,h1⟩,h2,_⟩=>exact⟨v,vs',d,ds',Z,Z,⟨n,p,h1⟩,q,h2⟩
theorem trodAll_nil {P:Program} {vs:List Value} {ds:List (DataW H_)} {ps:List MemPlace} {sp:Nat->Bool} (h:DataW.TrodAll enc P w 0 sp true [] vs ds ps):vs= []/\ds= []:=by
  match vs,ds,h with
  | [],[],_=>exact⟨Z,Z⟩
end
theorem Jh {α:Type} {m E b e:Nat} {R:α->List V->Prop} {x:α} {vs:List V} (hm:vs.length=m) (u:R x vs):cQ m E R [x] (.slice b 0 1 (.known 1)) [(b,.row vs e false)]:=
 .inr ⟨b,.known 1,vs,e,Z,Z,by rw[hm];simp,fun i y h=>by
  cases i with
  | zero=>cases h;rw[Nat.zero_mul,List.drop_zero,tL_ B];exact u
  | succ i=>simp at h,.inl Z,by show 1<=1048576;decide⟩
theorem nR {G:Cx} (hG:Plain G) {K:KP} {g:XG} {a b c d:V} (X:eN K g a b c d) (loc:Int) {U:D} {L:Own} (aq:J U K L):
  bk Tryz.prog G 57 [.agg [a,b,c,d],.int .i64 loc] U fun v U'=>∃M,cQ 2 67 iV (cu g loc) v M/\J U' K (M++L):=by
 refine PS hG Tryz.func57 Z<|Pt 2 Z<|kp aq Z (cz Z Z) (fun U b1 aq=>?_);refine On 6 Z<|O Z (QC Z aq.g0 (n:=4) (vs:=[_,_,_,_]) Z) Z<|bf Z (Qz Z Z Z) (fun _=>Z) (ox hG X aq) (fun U aq=>?_);refine vQ 1 Z<|ky Z (an Z) (fun E=>?_) (fun E=>?_)
 ·refine OQ 20 Z ?_;exact aA Z Z ⟨[],.inl ⟨po<|bT E,Z,Z⟩,aq.pop⟩
 refine PZ 3 Z<|ky Z (an Z) (fun A=>?_) (fun A=>?_)
 ·refine OQ 16 Z ?_;exact aA Z Z ⟨[],.inl ⟨qA A,Z,Z⟩,aq.pop⟩
 refine P3 aq 3 [0,0] Z Z<|O Z (QD X.init Z Z Z (e:=2) Z) Z<|Pv 4 Z<|aE Z (fun C=>?_) (fun C=>?_)
 ·obtain⟨ln,rfl⟩:=iQ A;refine Pu 7 Z ?_;exact aA Z Z ⟨[],.inl ⟨qz (by rw[(cK<|sH<|bj E).2.2.2.2.1];exact nZ C),Z,Z⟩,aq.pop⟩
 obtain⟨ln,rfl⟩:=iQ A;refine OK 5 Z (O Z (Qy (places:=[(0,1),(1,1)]) (zero:=[T,T]) (cs:=[_,_]) Z) Z<|gT aq Z (bY (e:=67) (m:=2) (z:=[T,T]) (cs:=[_,_]) Y Y Y Y<|bD Z Z Z Z bJ) (fun _=>Z) (fun U b2 aq=>?_));replace aq:J U _ ([(b2,.row _ 67 false)]++_):=aq;refine O Z (QA 3 Z) Z<|O Z (QB Z aq.aQ.g0 Z) Z<|vQ 1 Z ?_;obtain⟨am,u⟩:=cm (show ln<g.order.length from by rw[(cK<|sH<|bj E).2.2.2.2.1];exact n8 C);refine Qu (e:=74) (m:=1) X.order u Z Z Z Z (fun ao ab F ac Q=>?_);have hr25':=Q;obtain⟨ap,rfl,W⟩:=hr25';refine O Z (QF aq F Z Z) Z (tW (R:=iV) (m:=2) (e:=67) (Jh (m:=2) (R:=iV) (x:=⟨0,.ofNat ln⟩) Z Z) aq W iV.leaf (by have:=j0 (sH<|bj E) _ (gB_ u);show 1+_<=_;omega) Z Z Z Z Z Z Z (fun _=>Z) (fun U ar aa hO27 aq=>?_));refine Px 4 Z ?_;exact aA Z Z ⟨aa,by rw[ez (bj E) u];exact hO27,aq.sub<|dH (.cons _ (.refl _))⟩
theorem MC {G:Cx} (F:Plain G) {K:KP} {g:XG} {a b c d:V} (M:eN K g a b c d) (loc:Int) {U:D} {L:Own} (aq:J U K L):
  bk Tryz.prog G 60 [.agg [a,b,c,d],.int .i64 loc] U fun v U'=>v= .int .i64 (jq g loc)/\J U' K L:=by
 refine PS F Tryz.func60 Z<|Pt 2 Z<|kp aq Z (cz Z Z) (fun U b1 aq=>?_);refine OO 5 Z<|O Z (QC Z aq.g0 (n:=4) (vs:=[_,_,_,_]) Z) Z<|vQ 1 Z<|cH Z (Qz Z Z Z) (fun _=>Z) (nR F M _ aq) ?_;rintro ac U ⟨am,hM10,aq⟩;obtain⟨Q,hle,A,aq⟩:=aq.fy;have hw:=hM10.kq (K:=Q) fun y hy=>A _ hy;have hg1:=M.mono hle;have hb9:=aq.get 0 Z
 refine On 7 Z<|O Z (QD hw Z Z Z (e:=67) Z) Z<|Pv 3 Z<|aE Z (fun u=>?_) (fun u=>?_)
 ·refine Pu 7 Z ?_;exact aA Z Z ⟨cJ (by unfold jq;rw[List.getLast?_eq_none_iff.2<|eN_<|iJ_<|eqv (b:=.ofNat 0) u]),(aq.pop).weaken hle⟩
 refine OJ 3 Z (aS (l:=[(0,[]),(1,[]),(2,[]),(3,[]),(4,[]),(5,[]),(6,[]),(11,[]),(7,[11]),(8,[]),(9,[]),(10,[]),(12,[]),(13,[])]) Y Y<|al Z Z (QC Z aq.g0 (n:=4) (vs:=[_,_,_,_]) Z) Z<|P1 2 Z<|al Z Z (QD hw Z Z Z (e:=67) Z) Z<|wQ 1 Z ?_);have ao:0<(cu g loc).length:=by rcases Nat.eq_zero_or_pos (cu g loc).length with e | e;(rw[e] at u;cases u);exact e
 obtain⟨ap,z⟩:=cm (show(cu g loc).length-1<(cu g loc).length from by omega);refine Qv (e:=67) (m:=2) hw z Z Z Z Z (cI<|kY (b:=1) B hw.bG) (fun ar aa C ab E=>?_);obtain rfl:=E;refine al Z Z (QG aq C Z Z) Z<|pB aq Z Z (QE (cs:=[T,T,T,T,T])) (fun _=>Z) (fun U b2 aq=>?_);refine cA Z Z (Qz Z Z Z) (fun _=>Z) (tv F hg1 _ _ aq) (fun U aq=>?_);refine⟨(bB (iq Z Z Z Z Z (cs:=[T,T,T,T,T]) (e:=56) Y aq.g0 Y) aV),?_⟩;refine P1 3 Z<|kb aq Z Z (QH Z Z Z aq.g0 (m:=5) Z Z (cells':=[_,_,_,_,_]) Z) Z (fun U aq=>?_);refine⟨aV,?_⟩;refine OS 4 Z<|PB aq 7 [4,0] Z Z ?_;exact aA Z Z ⟨cJ (by unfold jq;rw[List.getLast?_eq_getElem?,z]),(aq.pop.pop).weaken hle⟩
theorem xC {α:Type} {o:Option α} {d:α} (h:(!o.isSome)=false):o=some (o.getD d):=by
 cases o with
 | none=>cases h
 | some x=>rfl
theorem I8 {α:Type} {o:Option α} (h:(!o.isSome)=true):o=none:=by
 cases o with
 | none=>rfl
 | some x=>cases h
theorem MZ {k:Nat} {l:List XC} {m:List Int} {g:XG} (h:fl k l g=none):yc k l m g=false:=by unfold yc jm;rw[h];rfl
theorem wO {k:Nat} {l:List XC} {m:List Int} {g:XG} {e:List Int} (h:fl k l g=some e):yc k l m g=bif aX (I (.ofNat m.length) (.ofNat g.init.length)) then false else lL g m 0:=by
 unfold yc jm;rw[h];dsimp only;cases aX (I (.ofNat m.length) (.ofNat g.init.length)) with
 | true=>rfl
 | false=>cases lL g m 0<;>rfl
theorem Ku {G:Cx} (X:Plain G) {K:KP} {k:Nat} {l:List XC} {lv:V} (hl:bR K 2 (mY K k) l lv) (hF:AR k l) {m:List Int} {mv:V} (u:bR K 1 dy m mv) {g:XG} {a b c d:V} (hg:eN K g a b c d) {U:D} {L:Own} (aq:J U K L):
  bk Tryz.prog G 24 [lv,.agg [mv,a,b,c,d]] U fun v U'=>v= .bool (yc k l m g)/\J U' K L:=by
 refine PS X Tryz.func24 Z<|Pt 2 Z<|kp aq Z (cz Z Z) (fun U b1 aq=>?_);refine OX aq 7 [1] Z Z<|O Z (QC Z aq.g0 (n:=4) (vs:=[_,_,_,_]) Z) Z<|cH Z (Qz Z Z Z) (fun _=>Z) (HU X hl hF hg aq) ?_;rintro _ U ⟨ap,aa,rfl,hO12,aq⟩;refine On 11 Z<|O Z (cV Z) Z<|ky Z (an Z) (fun z=>?_) (fun z=>?_)
 ·refine OQ 19 Z ?_;exact aA Z Z ⟨cB (by rw[MZ<|I8 z]),aq.aQ.pop⟩
 refine O Z (QA 0 Z) Z<|O Z (QB Z aq.aQ.g0 Z) Z<|O Z (QD u Z Z Z (e:=2) Z) Z<|P3 aq 2 [1,0] Z Z<|O Z (QB Z aq.aQ.g0 Z) Z<|O Z (QD hg.init Z Z Z (e:=2) Z) Z<|Pv 4 Z<|aE Z (fun E=>?_) (fun E=>?_)
 ·refine Pu 7 Z ?_;have hsg:=xC (d:=[]) z;exact aA Z Z ⟨cB (by rw[wO hsg,show aX (I (.ofNat m.length) (.ofNat g.init.length))=true from E];rfl),aq.aQ.pop⟩
 refine Ok 9 Z (bp ([4,7]++rg 27 17) (fun j t U=>∃(i:Nat),j+i=m.length/\lL g m 0=lL g (m.drop i) i/\t.get 7=some (.int .i64 (.ofNat i))/\J U K (aa++(b1,.row [mv,a,b,c,d] 44 false)::L)) (m.length) ⟨0,Z,Z,Z,aq⟩ ?_);clear aq;intro j5 t U ar hI;obtain⟨i,aI,M,ab,aq⟩:=hI;obtain⟨oo,rfl⟩:=ar.q1 ab Z;refine OU aq 5 [0] Z Z<|O Z (QB Z aq.aQ.g0 Z) Z<|O Z (QD u Z Z Z (e:=2) Z) Z<|Pv 3 Z<|aE Z (fun A=>?_) (fun A=>?_)
 ·refine NO 5 Z (aS (l:=[(0,[]),(1,[]),(2,[]),(3,[]),(4,[]),(5,[]),(6,[]),(7,[]),(8,[1,4]),(9,[])]) Y Y<|al Z Z (QA 0 Z) Z<|al Z Z (QB Z aq.aQ.g0 Z) Z<|wQ 1 Z ?_);obtain⟨R,C,ac⟩:=cL A;refine Qv (e:=2) (m:=1) u C Z Z Z Z Z (fun aY am F ao W=>?_);obtain rfl:=W;refine al Z Z (QF aq F Z Z) Z<|al Z Z (QA 1 Z) Z<|al Z Z (QC Z aq.aQ.g0 (n:=4) (vs:=[_,_,_,_]) Z) Z<|wQ 1 Z<|cA Z Z (Qz Z Z Z) (fun _=>Z) (MC X hg _ aq) (fun U aq=>?_);refine⟨(bB (bN Z Z Z Z Z (QB Z aq.aQ.g0 Z) u.dX)<|bB (bN Z Z Z Z Z (QF aq F Z Z)<|jk _ _) aV),?_⟩;refine Py 3 Z<|aE Z (fun Q=>?_) (fun Q=>?_)
  ·refine PX 6 Z<|aF<|aw<|bz<|aF<|aw (?_);have hsg:=xC (d:=[]) z;exact aA Z Z ⟨cB (by rw[wO hsg,show aX (I (.ofNat m.length) (.ofNat g.init.length))=false from E,cf,M,cR C];unfold lL;rw[show aX (I R<|jq g (.ofNat i))=true from Q];rfl),aq.aQ.pop⟩
  refine aG<|aJ<|PW 5 Z<|aO ⟨j5-1,(by have:=bu A;omega),oF,i+1,(by have:=bu A;omega),(by rw[M,cR C];show(bif _ then _ else _)=_;rw[show aX (I R<|jq g (.ofNat i))=false from Q];rfl),cI<|bg (by have:=u.bG;omega),aq⟩
 refine OL 3 Z<|aT<|PX 6 Z ?_;have hsg:=xC (d:=[]) z;exact aA Z Z ⟨cB (by rw[wO hsg,show aX (I (.ofNat m.length) (.ofNat g.init.length))=false from E,cf,M,List.drop_eq_nil_iff.2<|bC A];rfl),aq.aQ.pop⟩
def sN (k:Nat) (l:List XC) (m:List Int) (g:XG):Bool:=bif yc k l m g then((fl k l g).getD []).all (fun e=>aX (I e 0)) else false
theorem HV {G:Cx} (Q:Plain G) {K:KP} {k:Nat} {l:List XC} {lv:V} (hl:bR K 2 (mY K k) l lv) (hF:AR k l) {m:List Int} {mv:V} (R:bR K 1 dy m mv) {g:XG} {a b c d:V} (hg:eN K g a b c d) {U:D} {L:Own} (aq:J U K L):
  bk Tryz.prog G 26 [lv,.agg [mv,a,b,c,d]] U fun v U'=>v= .bool (sN k l m g)/\J U' K L:=by
 refine PS Q Tryz.func26 Z<|Pt 2 Z<|kp aq Z (cz Z Z) (fun U b1 aq=>?_);refine On 7 Z<|O Z (QC Z aq.g0 (n:=5) (vs:=[_,_,_,_,_]) Z) Z<|bf Z (Qz Z Z Z) (fun _=>Z) (Ku Q hl hF R hg aq) (fun U aq=>?_);refine O Z (cV Z) Z<|Pv 2 Z<|aE Z (fun A=>?_) (fun A=>?_)
 ·refine Pu 7 Z ?_;exact aA Z Z ⟨cB (by unfold sN;rw[show yc k l m g=false from kA A];rfl),aq.pop⟩
 refine OV aq 6 [1] Z Z<|O Z (QC Z aq.g0 (n:=4) (vs:=[_,_,_,_]) Z) Z<|cH Z (Qz Z Z Z) (fun _=>Z) (HU Q hl hF hg aq) ?_;rintro _ U ⟨u16,W,rfl,hO16,aq⟩;replace aq:=aq.keeps;have hE:=hO16.iu (K:=K);refine Om 14 Z (bp ([4,7]++rg 19 11) (fun j t U=>∃(i:Nat),j+i=((fl k l g).getD []).length/\(((fl k l g).getD []).take i).all (fun e=>aX (I e 0))=true/\t.get 7=some (.int .i64 (.ofNat i))/\J U (K.ic W) ((b1,.row [mv,a,b,c,d] 44 false)::L)) (((fl k l g).getD []).length) ⟨0,Z,Z,Z,aq⟩ ?_);clear aq;intro j5 t U ar hI;obtain⟨i,am,ha,X,aq⟩:=hI;obtain⟨oo,rfl⟩:=ar.q1 X Z;refine OI 5 Z<|O Z (QD hE Z Z Z (e:=3) Z) Z<|Pv 3 Z<|aE Z (fun u=>?_) (fun u=>?_)
 ·refine NP 8 Z ?_;obtain⟨E,z,aa⟩:=cL u;refine Qu (e:=3) (m:=1) hE z Z Z Z Z (fun ao ab F ac M=>?_);obtain rfl:=M;refine O Z (QF aq F Z Z) Z<|Pv 3 Z<|aE Z (fun C=>?_) (fun C=>?_)
  ·refine PX 6 Z<|aF<|aw<|bz<|aF<|aw (?_);exact aA Z Z ⟨cB (by unfold sN;rw[show yc k l m g=true from eV A];rw[gG z (by show aX (I E 0)=false;rw[C];rfl)];rfl),(aq.pop).weaken<|KP.bX _ _⟩
  refine aG<|aJ<|PW 5 Z<|aO ⟨j5-1,(by have:=bu u;omega),oF,i+1,(by have:=bu u;omega),eR ha z (by show aX (I E 0)=true;rw[C];rfl),cI<|bg (by have:=hE.bG;omega),aq⟩
 refine OL 3 Z<|aT<|PX 6 Z ?_;exact aA Z Z ⟨cB (by unfold sN;rw[show yc k l m g=true from eV A];rw[dR ha<|bC u];rfl),(aq.pop).weaken<|KP.bX _ _⟩
def RU (u:V) (vs:List V):Prop:=vs= [u]/\cS u=some [u]/\iB u=true
theorem RU.leaf:∀x vs,RU x vs->cD vs=true:=fun u _ h=>by
 obtain⟨rfl,_,h2⟩:=h;exact ah h2 aC
def NS (g:XG):Prop:=g.init.length<=1000/\g.threads.length<=1000/\(∀l∈g.threads,l.length<=1000)/\g.from_.length<=1000/\(∀l∈g.from_,l.length<=1000)/\g.order.length<=1000/\(∀l∈g.order,l.length<=1000)
theorem KK {g:XG} (h:cd g=0):NS g:=by
 obtain⟨h1,h2,u,h4,h5,z,_⟩:=cK h;exact⟨by omega,by omega,fun l hl=>by have:=u l hl;omega,by omega,fun l hl=>by have:=mS z h4 u l hl;omega,by omega,fun l hl=>by have:=j0 h l hl;omega⟩
structure AU (g:XG) (u0:V) (M0:Own) (u1:V) (us1:List V) (O1 I1:Own) (u2:V) (us2:List V) (O2 I2:Own) (u3:V) (us3:List V) (O3 I3:Own):Prop where
 init:cQ 1 2 dy g.init u0 M0
 threads:fH 5 56 iU g.threads us1 I1
 from_:fH 2 67 iV g.from_ us2 I2
 order:fH 2 67 iV g.order us3 I3
 o1:cQ 1 57 RU us1 u1 O1
 o2:cQ 1 74 RU us2 u2 O2
 o3:cQ 1 74 RU us3 u3 O3
abbrev Pq (M0 O1 I1 O2 I2 O3 I3 L:Own):Own:=O3++(I3++(O2++(I2++(O1++(I1++(M0++L))))))
theorem MA {G:Cx} (hG:Plain G) {K:KP} {g:XG} {a b c d:V} (hg:eN K g a b c d) (be:NS g) {U:D} {L:Own} (aq:J U K L):
  bk Tryz.prog G 95 [.agg [a,b,c,d]] U fun v U'=>∃u0 M0 u1 u O1 E u2 A O2 I2 u3 C O3 I3,v= .agg [u0,u1,u2,u3]/\AU g u0 M0 u1 u O1 E u2 A O2 I2 u3 C O3 I3/\J U' K (Pq M0 O1 E O2 I2 O3 I3 L):=by
 obtain⟨cp,cv,bi,cx,bl,c0,bm⟩:=be;refine PS hG Tryz.func95 Z<|Pt 2 Z<|kp aq Z (cz Z Z) (fun U b1 aq=>?_);refine kp aq Z (QE (cs:=[.ax,.ax,.ax,.ax])) (fun U b2 aq=>?_);refine OO 4 Z<|gT aq Z (bY (e:=2) (m:=1) (z:=[T]) (cs:=[]) Y Y Y Y bJ) (fun _=>Z) (fun U b3 aq=>?_);replace aq:J U _ ([(b3,.row [] 2 false)]++_):=aq;refine O Z (QA 0 Z) Z<|O Z (QB Z aq.aQ.pop.g0 Z) Z<|tW (R:=dy) (m:=1) (e:=2) cQ.empty aq hg.init dy.leaf (by show 0+_<=_;omega) Z Z Z Z Z Z Z (fun _=>Z) (fun U ac am hO10 aq=>?_);refine O Z (bF (places:=[(0,1),(1,1),(2,1),(3,1)]) (zero:=[.ax,.ax,.ax,.ax]) (cs:=[_,_,_,_]) Y Y Y (bD Z Z hO10.leaf.1 Z bJ) Y) Z<|kp aq Z (QE (cs:=[.ax,.ax,.ax,.ax])) (fun U b4 aq=>?_);refine bO aq Z (QH Z Z Z aq.g0 (m:=4) Z (ah hO10.leaf.2 Z) (cells':=[_,_,_,_]) Z) Z (fun U aq=>?_);refine Om 9 Z (bp ([4]++rg 12 19) (fun j t U=>∃(i:Nat) (u1:V) (u:List V) (O1 E:Own),j+i=g.threads.length/\fH 5 56 iU (g.threads.take i) u E/\cQ 1 57 RU u u1 O1/\t.get 4=some (.int .i64 (.ofNat i))/\J U K (O1++(E++((b4,.row [ac,u1,.ax,.ax] 26 false)::(am++((b2,.row [.ax,.ax,.ax,.ax] 26 false)::(b1,.row [a,b,c,d] 26 false)::L)))))) (g.threads.length) ⟨0,.ax,[],[],[],Z,.nil,cQ.nil,Z,aq⟩ ?_);clear aq;intro j3 t U ar hI;obtain⟨i,u1,u,O1,E,c1,hI1,hO1,bo,aq⟩:=hI;obtain⟨oo,rfl⟩:=ar.q1 bo Z;refine OU aq 5 [1] Z Z<|O Z (QB Z aq.aQ.aQ.pop.aQ.pop.g0 Z) Z<|O Z (QD hg.threads Z Z Z (e:=57) Z) Z<|Pv 3 Z<|aE Z (fun F=>?_) (fun F=>?_)
 ·refine Ok 4 Z (aS (l:=[(0,[]),(1,[]),(2,[]),(3,[]),(4,[]),(5,[]),(6,[]),(7,[]),(8,[1]),(9,[]),(10,[]),(11,[]),(12,[])]) Y Y<|al Z Z (QA 1 Z) Z<|al Z Z (QB Z aq.aQ.aQ.g0 Z) Z<|j1 aq Z Z (bY (e:=56) (m:=5) (z:=[T,T,T,T,T]) (cs:=[]) Y Y Y Y bJ) (fun _=>Z) (fun U b5 aq=>?_));replace aq:J U _ ([(b5,.row [] 56 false)]++_):=aq;refine al Z Z (QA 1 Z) Z<|al Z Z (QB Z aq.aQ.aQ.aQ.pop.aQ.pop.g0 Z) Z<|wQ 1 Z ?_;obtain⟨c2,M,cb⟩:=cL F;refine Qv (e:=57) (m:=1) hg.threads M Z Z Z Z Z (fun c3 cc aY ce a0=>?_);have hr25':=a0;obtain⟨c4,rfl,a1⟩:=hr25';refine al Z Z (QF aq aY Z Z) Z (kL (R:=iU) (m:=5) (e:=56) cQ.empty aq a1 iU.leaf (by have:=bi _ (gB_ M);show 0+_<=_;omega) Z Z Z Z Z Z Z Z (fun _=>Z) (fun U ao a2 hO27 aq=>?_));refine⟨(bB (bN Z Z Z Z Z (QB Z aq.aQ.aQ.aQ.g0 Z) (hO1.iu (K:=fun _ _=>False)).dX) aV),?_⟩;refine j1 aq Z Z (bY (e:=57) (m:=1) (z:=[.ax]) (cs:=[ao]) Y Y Y Y<|bD Z Z hO27.leaf.1 Z bJ) (fun _=>Z) (fun U b6 aq=>?_);replace aq:=aq.pull (.there (.cM .here));replace aq:=aq.pull (.cM<|ep.here (X:=[_]));refine mN (R:=RU) (m:=1) (e:=57) hO1 aq (eU (m:=1) Z (show RU ao [ao] from⟨Z,hO27.leaf⟩)) RU.leaf (by have h1:=hI1.length;rw[lT_] at h1;show _+1<=_;omega) Z Z Z Z Z Z Z Z (fun _=>Z) (fun U bs bt hO29 aq=>?_);refine⟨aV,?_⟩;refine al Z Z (QA 1 Z) Z<|gD aq (.cM (.cM (.cM .here))) Z Z (aL Z Z hO29.leaf.1 aq.aQ.aQ.aQ.g0 (m:=1) Y Z (lb Z) (ah hO29.leaf.2 aC) (cells':=[_,_,_,_]) Z) Z (fun U aq=>?_);refine⟨aV,?_⟩;refine ba<|aJ<|ad<|ai Z ?_;rw[<-lQ_ a2 E] at aq;refine PY 4 Z<|aO ⟨j3-1,(by have:=bu F;omega),oF,i+1,bs,u++[ao],bt,a2++E,(by have:=bu F;omega),(by rw[List.take_add_one,M];exact .snoc hI1 hO27),hO29,cI<|bg (by have:=hg.threads.bG;omega),aq⟩
 refine OL 3 Z (aT (OH 7 Z (bp ([5]++rg 31 19) (fun j t U=>∃(i:Nat) (u2:V) (A:List V) (O2 I2:Own),j+i=g.from_.length/\fH 2 67 iV (g.from_.take i) A I2/\cQ 1 74 RU A u2 O2/\t.get 5=some (.int .i64 (.ofNat i))/\J U K (O2++(I2++(O1++(E++((b4,.row [ac,u1,u2,.ax] 26 false)::(am++((b2,.row [.ax,.ax,.ax,.ax] 26 false)::(b1,.row [a,b,c,d] 26 false)::L)))))))) (g.from_.length) ⟨0,.ax,[],[],[],Z,.nil,cQ.nil,Z,aq⟩ ?_)));clear aq;intro j7 t U ar hI;obtain⟨i,u2,A,O2,I2,c5,hI2,hO2,bv,aq⟩:=hI;obtain⟨oo,rfl⟩:=ar.q1 bv Z;refine OU aq 5 [2] Z Z<|O Z (QB Z aq.aQ.aQ.aQ.aQ.pop.aQ.pop.g0 Z) Z<|O Z (QD hg.from_ Z Z Z (e:=74) Z) Z<|Pv 3 Z<|aE Z (fun Q=>?_) (fun Q=>?_)
 ·refine Ok 4 Z (aS (l:=[(0,[]),(1,[]),(2,[]),(3,[]),(4,[]),(5,[]),(6,[]),(7,[]),(8,[1]),(9,[]),(10,[]),(11,[]),(12,[])]) Y Y<|al Z Z (QA 2 Z) Z<|al Z Z (QB Z aq.aQ.aQ.aQ.aQ.g0 Z) Z<|j1 aq Z Z (bY (e:=67) (m:=2) (z:=[T,T]) (cs:=[]) Y Y Y Y bJ) (fun _=>Z) (fun U b5 aq=>?_));replace aq:J U _ ([(b5,.row [] 67 false)]++_):=aq;refine al Z Z (QA 2 Z) Z<|al Z Z (QB Z aq.aQ.aQ.aQ.aQ.aQ.pop.aQ.pop.g0 Z) Z<|wQ 1 Z ?_;obtain⟨c7,W,cg⟩:=cL Q;refine Qv (e:=74) (m:=1) hg.from_ W Z Z Z Z Z (fun c8 ch a3 ci a4=>?_);have hr44':=a4;obtain⟨c9,rfl,a5⟩:=hr44';refine al Z Z (QF aq a3 Z Z) Z (kL (R:=iV) (m:=2) (e:=67) cQ.empty aq a5 iV.leaf (by have:=bl _ (gB_ W);show 0+_<=_;omega) Z Z Z Z Z Z Z Z (fun _=>Z) (fun U ap a6 hO46 aq=>?_));refine⟨(bB (bN Z Z Z Z Z (QB Z aq.aQ.aQ.aQ.aQ.aQ.g0 Z) (hO2.iu (K:=fun _ _=>False)).dX) aV),?_⟩;refine j1 aq Z Z (bY (e:=74) (m:=1) (z:=[.ax]) (cs:=[ap]) Y Y Y Y<|bD Z Z hO46.leaf.1 Z bJ) (fun _=>Z) (fun U b6 aq=>?_);replace aq:=aq.pull (.there (.cM .here));replace aq:=aq.pull (.cM<|ep.here (X:=[_]));refine mN (R:=RU) (m:=1) (e:=74) hO2 aq (eU (m:=1) Z (show RU ap [ap] from⟨Z,hO46.leaf⟩)) RU.leaf (by have h1:=hI2.length;rw[lT_] at h1;show _+1<=_;omega) Z Z Z Z Z Z Z Z (fun _=>Z) (fun U bw b0 hO48 aq=>?_);refine⟨aV,?_⟩;refine al Z Z (QA 2 Z) Z<|gD aq (.cM (.cM (.cM (.cM (.cM .here))))) Z Z (aL Z Z hO48.leaf.1 aq.aQ.aQ.aQ.aQ.aQ.g0 (m:=1) Y Z (lb Z) (ah hO48.leaf.2 aC) (cells':=[_,_,_,_]) Z) Z (fun U aq=>?_);refine⟨aV,?_⟩;refine ba<|aJ<|ad<|ai Z ?_;rw[<-lQ_ a6 I2] at aq;refine PY 4 Z<|aO ⟨j7-1,(by have:=bu Q;omega),oF,i+1,bw,A++[ap],b0,a6++I2,(by have:=bu Q;omega),(by rw[List.take_add_one,W];exact .snoc hI2 hO46),hO48,cI<|bg (by have:=hg.from_.bG;omega),aq⟩
 refine OL 3 Z (aT (OH 7 Z (bp ([6]++rg 50 19) (fun j t U=>∃(i:Nat) (u3:V) (C:List V) (O3 I3:Own),j+i=g.order.length/\fH 2 67 iV (g.order.take i) C I3/\cQ 1 74 RU C u3 O3/\t.get 6=some (.int .i64 (.ofNat i))/\J U K (O3++(I3++(O2++(I2++(O1++(E++((b4,.row [ac,u1,u2,u3] 26 false)::(am++((b2,.row [.ax,.ax,.ax,.ax] 26 false)::(b1,.row [a,b,c,d] 26 false)::L)))))))))) (g.order.length) ⟨0,.ax,[],[],[],Z,.nil,cQ.nil,Z,aq⟩ ?_)));clear aq;intro b7 t U ar hI;obtain⟨i,u3,C,O3,I3,ck,hI3,hO3,b8,aq⟩:=hI;obtain⟨oo,rfl⟩:=ar.q1 b8 Z;refine OU aq 5 [3] Z Z<|O Z (QB Z aq.aQ.aQ.aQ.aQ.aQ.aQ.pop.aQ.pop.g0 Z) Z<|O Z (QD hg.order Z Z Z (e:=74) Z) Z<|Pv 3 Z<|aE Z (fun aa=>?_) (fun aa=>?_)
 ·refine Ok 4 Z (aS (l:=[(0,[]),(1,[]),(2,[]),(3,[]),(4,[]),(5,[]),(6,[]),(7,[]),(8,[1]),(9,[]),(10,[]),(11,[]),(12,[])]) Y Y<|al Z Z (QA 3 Z) Z<|al Z Z (QB Z aq.aQ.aQ.aQ.aQ.aQ.aQ.g0 Z) Z<|j1 aq Z Z (bY (e:=67) (m:=2) (z:=[T,T]) (cs:=[]) Y Y Y Y bJ) (fun _=>Z) (fun U b5 aq=>?_));replace aq:J U _ ([(b5,.row [] 67 false)]++_):=aq;refine al Z Z (QA 3 Z) Z<|al Z Z (QB Z aq.aQ.aQ.aQ.aQ.aQ.aQ.aQ.pop.aQ.pop.g0 Z) Z<|wQ 1 Z ?_;obtain⟨dd,ab,cl⟩:=cL aa;refine Qv (e:=74) (m:=1) hg.order ab Z Z Z Z Z (fun dl cn a7 co a8=>?_);have hr63':=a8;obtain⟨dm,rfl,a9⟩:=hr63';refine al Z Z (QF aq a7 Z Z) Z (kL (R:=iV) (m:=2) (e:=67) cQ.empty aq a9 iV.leaf (by have:=bm _ (gB_ ab);show 0+_<=_;omega) Z Z Z Z Z Z Z Z (fun _=>Z) (fun U aI bb hO65 aq=>?_));refine⟨(bB (bN Z Z Z Z Z (QB Z aq.aQ.aQ.aQ.aQ.aQ.aQ.aQ.g0 Z) (hO3.iu (K:=fun _ _=>False)).dX) aV),?_⟩;refine j1 aq Z Z (bY (e:=74) (m:=1) (z:=[.ax]) (cs:=[aI]) Y Y Y Y<|bD Z Z hO65.leaf.1 Z bJ) (fun _=>Z) (fun U b6 aq=>?_);replace aq:=aq.pull (.there (.cM .here));replace aq:=aq.pull (.cM<|ep.here (X:=[_]));refine mN (R:=RU) (m:=1) (e:=74) hO3 aq (eU (m:=1) Z (show RU aI [aI] from⟨Z,hO65.leaf⟩)) RU.leaf (by have h1:=hI3.length;rw[lT_] at h1;show _+1<=_;omega) Z Z Z Z Z Z Z Z (fun _=>Z) (fun U b9 ca hO67 aq=>?_);refine⟨aV,?_⟩;refine al Z Z (QA 3 Z) Z<|gD aq (.cM (.cM (.cM (.cM (.cM (.cM (.cM .here))))))) Z Z (aL Z Z hO67.leaf.1 aq.aQ.aQ.aQ.aQ.aQ.aQ.aQ.g0 (m:=1) Y Z (lb Z) (ah hO67.leaf.2 aC) (cells':=[_,_,_,_]) Z) Z (fun U aq=>?_);refine⟨aV,?_⟩;refine ba<|aJ<|ad<|ai Z ?_;rw[<-lQ_ bb I3] at aq;refine PY 4 Z<|aO ⟨b7-1,(by have:=bu aa;omega),oF,i+1,b9,C++[aI],ca,bb++I3,(by have:=bu aa;omega),(by rw[List.take_add_one,ab];exact .snoc hI3 hO65),hO67,cI<|bg (by have:=hg.order.bG;omega),aq⟩
 refine OL 3 Z<|aT<|Pt 2 Z<|O Z (QC Z aq.aQ.aQ.aQ.aQ.aQ.aQ.g0 (n:=4) (vs:=[_,_,_,_]) Z) Z<|cC aq (.cM (.cM (.cM (.cM (.cM (.cM (.there (.cM .here)))))))) Z (QH Z Z Z aq.aQ.aQ.aQ.aQ.aQ.aQ.pop.aQ.g0 (m:=4) Z (ah hO10.leaf.2<|ah hO1.leaf.2<|ah hO2.leaf.2<|ah hO3.leaf.2 aC) (cells':=[_,_,_,_]) Z) Z (fun U aq=>?_);refine Px 3 Z ?_;rw[tL_<|bC F] at hI1;rw[tL_<|bC Q] at hI2;rw[tL_<|bC aa] at hI3;exact eL Z Z aq.aQ.aQ.aQ.aQ.aQ.aQ.pop.aQ.g0 (m:=4) Y Z ⟨ac,am,u1,u,O1,E,u2,A,O2,I2,u3,C,O3,I3,Z,⟨hO10,hI1,hI2,hI3,hO1,hO2,hO3⟩,aq.sub<|dH<|dH<|dH<|dH<|dH<|dH (.cons _<|dH (.cons _ (.cons _ (.refl _))))⟩
end Go.Ev
namespace Go.Ev
variable [Env]
theorem B8 {g:XG}:∀{m:List Int} {i:Nat},lL g m i=true->∀j v,m[j]?=some v->v=jq g (.ofNat (i+j))
 | [],_,_,j,v,hv=>by simp at hv
 | w::r,i,h,j,v,hv=>by
  unfold lL at h;cases h1:I w (jq g (.ofNat i)) with
  | false=>rw[h1] at h;cases h
  | true=>
   rw[h1] at h;cases j with
   | zero=>cases hv;exact eqv h1
   | succ j=>have:=B8 (i:=i+1) h j v (by simpa using hv);rwa[show i+1+j=i+(j+1) by omega] at this
theorem yP {k:Nat}:∀{l:List XC} {g:List (List db)} {e:List Int},pV k l g=some e->∀(t:Nat) (c:XC) (row:List db),l[t]?=some c->g[t]?=some row->nP k c row
 | [],_,_,_,t,c,row,h1,_=>by simp at h1
 | _::_,[],_,h,_,_,_,_,_=>by cases h
 | x::l,r::g,e,h,t,c,row,h1,h2=>by
  unfold pV at h;cases hq:I (bI k x r).2 0 with
  | false=>rw[hq] at h;cases h
  | true=>
   rw[hq] at h;cases t with
   | zero=>cases h1;cases h2;exact kI.1<|eqv hq
   | succ t=>
    cases hf:pV k l g with
    | none=>rw[hf] at h;cases h
    | some e'=>exact yP hf t c row (by simpa using h1) (by simpa using h2)
theorem Fk {k:Nat} {l:List XC} {m:List Int} {g:XG} (h:yc k l m g=true):tC k l ⟨m,g⟩:=by
 unfold yc jm at h;cases hf:fl k l g with
 | none=>rw[hf] at h;cases h
 | some e=>
  rw[hf] at h;dsimp only at h;cases h1:I (.ofNat m.length) (.ofNat g.init.length) with
  | false=>rw[h1] at h;cases h
  | true=>
   rw[h1] at h;cases h2:lL g m 0 with
   | false=>rw[h2] at h;cases h
   | true=>
    have hm:m.length=g.init.length:=iJ_ (eqv h1);unfold fl at hf;cases z:I (cd g) 0 with
    | false=>rw[z] at hf;cases hf
    | true=>
     rw[z] at hf;cases h4:I (.ofNat l.length) (.ofNat g.threads.length) with
     | false=>rw[h4] at hf;cases hf
     | true=>
      rw[h4] at hf;refine⟨eqv z,(iJ_<|eqv h4).symm,hm,fun i hi=>?_,fun t c row A k2=>yP hf t c row A k2⟩;have u:i<m.length:=by rw[hm];exact hi
      have:=B8 h2 i m[i] (gC u);rw[nA_] at this;show m[i]?=_;rw[gC u,this]
theorem EV {k:Nat} {c:XC} {l:List db} (h:(bI k c l).2=0) (hk:I (bI k c l).1.ask.kind 0=false):0<=(bI k c l).1.ask.loc:=by
 obtain⟨hf,z⟩:=kI.1 h;have hc:=(qL hf).1;revert hk;unfold bI;rw[jD,hf];simp only[aX,cond_true,cond_false];unfold iD;rw[z];simp only[aX,cond_true,cond_false];cases he:(gx k c<|dg l).events[l.length]? with
 | some e=>intro hk;cases hk
 | none=>
  cases A:(gx k c<|dg l).asks with
  | false=>intro hk;cases hk
  | true=>
   intro _;have hkd:=qE (k:=k) (pd hc<|dg l).1 A;revert hkd;show _->0<=(lh k c<|gx k c<|dg l).loc;unfold lh;cases hx:c.ins[(gx k c<|dg l).at_]? with
   | none=>intro hkd;exact Int.le_refl 0
   | some x=>
    intro hkd;obtain⟨n,sh,hn,n1,aa,u,C⟩:=iY (hc.right x (gB_ hx));have hl:=(hJ C).loc;have hkd:x.kind=2∨x.kind=4∨x.kind=5∨x.kind=6:=hkd;rw[hn] at hkd
    have E:sh.loc=true:=by
     rcases hkd with e | e | e | e
     ·obtain rfl:n=2:=iJ_ e;cases u;rfl
     ·obtain rfl:n=4:=iJ_ e;cases u;rfl
     ·obtain rfl:n=5:=iJ_ e;cases u;rfl
     obtain rfl:n=6:=iJ_ e;cases u;rfl
    rw[E] at hl;exact(lA hl).1
def vg (n:ji):Bool:=aX (I n.ask.kind 0)
def eD (n:ji) (m:List Int):db:=bif vg n then bL n.ask ((m[n.ask.loc.toNat]?).getD 0) else n.event
def L2 (n:ji) (g:XG):dw:=bif vg n then((cu g n.ask.loc).getLast?).getD ⟨0,0⟩ else⟨0,0⟩
def Ab (g:XG) (e:db):Int:=bif bq e then .ofNat (cu g e.loc).length else 0
def oX (m:List Int) (e:db) (pl:Int):List Int:=bif bU 0 pl then m.set e.loc.toNat e.write else m
def HA (m:List Int) (e:db) (fr:dw) (pl:Int) (th:Int) (g:XG):Option XM×Int:=
 match gf g th e fr pl with
 | (some g',x)=>(some ⟨oX m e pl,g'⟩,x)
 | (none,x)=>(none,x)
theorem Hh {g:XG} (hchk:cd g=0) {e:db} (h:bW e (.ofNat g.init.length)=true) (hw:bq e=true):∃(ln:Nat) (r:List dw),e.loc= .ofNat ln/\g.order[ln]?=some r/\(cu g e.loc).length=r.length+1:=by
 unfold bW at h
 have h4:I e.kind 4=false:=by
  cases h4:I e.kind 4 with
  | false=>rfl
  | true=>unfold bq at hw;rw[eqv h4] at hw;cases hw
 rw[h4] at h
 have key:(bif aX (bU e.loc 0) then bU e.loc (.ofNat g.init.length) else false)=true:=by
  revert h;cases bU e.kind 1<;>cases bU 4 e.kind<;>cases bU e.order 1<;>cases bU 6 e.order<;>cases (bif (!dD e) then aX (I e.read 0) else false)<;>cases (bif (!bq e) then aX (I e.write 0) else false)<;>intro h<;>first | exact h | cases h
 cases h0:bU e.loc 0 with
 | true=>rw[h0] at key;cases key
 | false=>
  rw[h0] at key;obtain⟨ln,hl⟩:=iQ h0;rw[hl] at key;have u:ln<g.init.length:=bu key;obtain⟨r,z⟩:=g8 hchk u;exact⟨ln,r,hl,z,by rw[hl,ez (by rw[hchk];rfl) z];rfl⟩
section
variable {g:XG} {tm:Nat} {row:List db} {frow:List dw} (hchk:cd g=0) (hx:g.threads[tm]?=some row) (hf:g.from_[tm]?=some frow) (hlen:bU (.ofNat row.length) 14=true) {e:db} {fr:dw} {pl:Int}
include hchk hx hf hlen
theorem C8:gf g (.ofNat (tm+1)) e fr pl=bif cT g e pl then(none,2) else bif I (cd<|eE g tm e fr pl row frow) 0 then(some<|eE g tm e fr pl row frow,0) else(none,2):=by
 rw[kO (by rw[hchk];rfl) hx hf,hlen];rfl
theorem oA (h:cT g e pl=true):gf g (.ofNat (tm+1)) e fr pl=(none,2):=by rw[C8 hchk hx hf hlen,h];rfl
theorem tD (h:I (cd<|eE g tm e fr pl row frow) 0=false):gf g (.ofNat (tm+1)) e fr pl=(none,2):=by
 rw[C8 hchk hx hf hlen,h];cases cT g e pl<;>rfl
theorem AZ (hb:cT g e pl=false) (h:I (cd<|eE g tm e fr pl row frow) 0=true):gf g (.ofNat (tm+1)) e fr pl=(some<|eE g tm e fr pl row frow,0):=by
 rw[C8 hchk hx hf hlen,hb,h];rfl
theorem tE (h:bW e (.ofNat g.init.length)=false):gf g (.ofNat (tm+1)) e fr pl=(none,2):=by
 cases h2:I (cd<|eE g tm e fr pl row frow) 0 with
 | false=>exact tD hchk hx hf hlen h2
 | true=>
  have hR:=im.1 (eqv h2);have hR0:=im.1 hchk;have h1:(eE g tm e fr pl row frow).threads[tm]?=some (row++[e]):=by rw[mg];exact List.getElem?_set_self (gA.1 hx).1
  have u:(eE g tm e fr pl row frow).from_[tm]?=some (frow++[fr]):=by rw[mg];exact List.getElem?_set_self (gA.1 hf).1
  have hfl:=(hR0.rows tm row frow hx hf).1;have hk:=(hR.rows tm _ _ h1 u).2 row.length e fr (by simp) (by rw[<-hfl];simp);unfold yf at hk;have hi:(eE g tm e fr pl row frow).init.length=g.init.length:=by rw[mg]
  rw[hi,h] at hk;cases hk
end
section
variable {k:Nat} {l:List XC} {r:XM} {t:Nat} {c:XC} {row:List db} (hinv:tC k l r) (hc:l[t]?=some c) (hrow:r.g.threads[t]?=some row)
include hinv hc hrow
theorem q8:(bI k c row).2=0:=kI.2 (hinv.fits t c row hc hrow)
theorem ui {e:Int} (h:jP k c row r.g=e) (h0:I e 0=false):eG k l r t=(none,e):=by
 unfold eG;rw[hc,hrow];dsimp only;rw[h,h0];rfl
theorem JF (u:I (bI k c row).1.fin 0=false):eG k l r t=(none,10):=by
 refine ui hinv hc hrow ?_ Z;unfold jP;rw[q8 hinv hc hrow,u];rfl
theorem JG (u:I (bI k c row).1.fin 0=true) (hlen:bU (.ofNat row.length) 14=false):eG k l r t=(none,3):=by
 refine ui hinv hc hrow ?_ Z;unfold jP;rw[q8 hinv hc hrow,u,hlen];rfl
theorem JH (z:I (bI k c row).1.fin 0=true) (hlen:bU (.ofNat row.length) 14=true) (A:vg (bI k c row).1=true) (u:bU (bI k c row).1.ask.loc (.ofNat r.mem.length)=false):eG k l r t=(none,2):=by
 refine ui hinv hc hrow ?_ Z;unfold jP;rw[q8 hinv hc hrow,z,hlen];show(bif ef (bI k c row).1 r.g then(2:Int) else 0)=2
 have hb:ef (bI k c row).1 r.g=true:=by
  have hk:aX (I (bI k c row).1.ask.kind 0)=true:=A;rcases qa (q8 hinv hc hrow) with ⟨e,he,_,_⟩ | ⟨a,C,_,_⟩ | ⟨n,hn⟩
  ·rw[he] at hk;cases hk
  ·unfold ef nF;rw[hk];rw[hinv.mem] at u;rw[show I (bI k c row).1.event.kind 4=false from by rw[C];rfl];simp only[aX,cond_true,cond_false];rw[u];cases bU (bI k c row).1.ask.loc 0<;>rfl
  rw[hn] at hk;cases hk
 rw[hb];rfl
theorem Gq {p:xX} (hlen:bU (.ofNat row.length) 14=true) (h:bW p.vq (.ofNat r.g.init.length)=false):we p (.ofNat (t+1)) r.g=(none,2):=by
 obtain⟨f,hf⟩:=cm (show t<r.g.from_.length from by rw[(im.1 hinv.Gi).from_];exact(gA.1 hrow).1);unfold we;rw[tE hinv.Gi hrow hf hlen h]
theorem Gp {m:List Int} {e:db} {fr:dw} {pl:Int} (hlen:bU (.ofNat row.length) 14=true) (h:bW e (.ofNat r.g.init.length)=false):HA m e fr pl (.ofNat (t+1)) r.g=(none,2):=by
 obtain⟨f,hf⟩:=cm (show t<r.g.from_.length from by rw[(im.1 hinv.Gi).from_];exact(gA.1 hrow).1);unfold HA;rw[tE hinv.Gi hrow hf hlen h]
end
theorem Hw {e:db} {n:Int} (h4:I e.kind 4=false) (h:(bif bU e.loc 0 then true else aX (bU e.loc n))=true):bW e n=false:=by
 unfold bW;rw[h4];cases bU e.kind 1<;>cases bU 4 e.kind<;>cases bU e.order 1<;>cases bU 6 e.order<;>cases (bif (!dD e) then aX (I e.read 0) else false)<;>cases (bif (!bq e) then aX (I e.write 0) else false)<;>try rfl
 cases h1:bU e.loc 0 with
 | true=>rfl
 | false=>rw[h1] at h;cases h2:bU e.loc n with
  | true=>rw[h2] at h;cases h
  | false=>rfl
theorem xQ {e:db} {n:Int} (u:dD e=false) (hw:bq e=false) (h4:I e.kind 4=false):bW e n=false:=by
 cases h1:bU e.kind 1 with
 | true=>unfold bW;rw[h1];rfl
 | false=>
  cases h5:bU 4 e.kind with
  | true=>unfold bW;rw[h1,h5];rfl
  | false=>
   exfalso;have a1:=B1.1 h1;have a2:=B1.1 h5;have n1:e.kind≠1:=fun q=>by unfold dD at u;rw[q] at u;cases u
   have n2:e.kind≠2:=fun q=>by unfold bq at hw;rw[q] at hw;cases hw
   have n3:e.kind≠3:=fun q=>by unfold bq at hw;rw[q] at hw;cases hw
   have n4:e.kind≠4:=fun q=>by rw[q] at h4;cases h4
   omega
theorem H9 {p:xX} {m:List Int} {e:db} {fr:dw} {pl th:Int} {g:XG} (h:p=⟨e,fr,pl,oX m e pl⟩):we p th g=HA m e fr pl th g:=by subst h;rfl
theorem Fw {m:List Int} {e:db} {n:Nat} (h:0<n):oX m e (.ofNat n)=m.set e.loc.toNat e.write:=by
 obtain⟨q,rfl⟩:∃q,n=q+1:=⟨n-1,by omega⟩;rfl
theorem CE {k:Nat} {l:List XC} {r:XM} {t:Nat} {c:XC} {row:List db} (hinv:tC k l r) (hc:l[t]?=some c) (hrow:r.g.threads[t]?=some row) (C:I (bI k c row).1.fin 0=true) (hlen:bU (.ofNat row.length) 14=true)
  (E:vg (bI k c row).1=true->bU (bI k c row).1.ask.loc (.ofNat r.mem.length)=true):
  eG k l r t=HA r.mem (eD (bI k c row).1 r.mem) (L2 (bI k c row).1 r.g) (Ab r.g<|eD (bI k c row).1 r.mem) (.ofNat (t+1)) r.g:=by
 have hnx:=q8 hinv hc hrow
 have F:jP k c row r.g=bif ef (bI k c row).1 r.g then 2 else 0:=by
  unfold jP;rw[hnx,C,hlen];rfl
 have aq:eG k l r t=bif ef (bI k c row).1 r.g then(none,2) else we (fz (bI k c row).1 r.mem r.g) (.ofNat (t+1)) r.g:=by
  unfold eG;rw[hc,hrow];dsimp only;rw[F];cases ef (bI k c row).1 r.g<;>rfl
 rw[aq];have hwr:= @Gp _ k l r t c row hinv hc hrow;have hwm:= @Gq _ k l r t c row hinv hc hrow;rcases qa hnx with ⟨e,he,_,G⟩ | ⟨a,M,hk,_⟩ | ⟨n,hn⟩
 ·rw[he];have K:eD (⟨e,gw,0⟩:ji) r.mem=e:=rfl;have Q:L2 (⟨e,gw,0⟩:ji) r.g=⟨0,0⟩:=rfl;dsimp only;rw[K,Q];cases h4:I e.kind 4 with
  | true=>
   have hb:ef ⟨e,gw,0⟩ r.g=false:=by unfold ef;dsimp only;rw[h4];rfl
   have hw:bq e=false:=by unfold bq;rw[eqv h4];rfl
   have hp:Ab r.g e=0:=by unfold Ab;rw[hw];rfl
   rw[hb,hp,nj h4];exact H9 Z
  | false=>
   cases hb:ef ⟨e,gw,0⟩ r.g with
   | true=>
    refine(hwr hlen<|Hw h4 ?_).symm;unfold ef at hb;dsimp only at hb;rw[h4] at hb;exact hb
   | false=>
    cases hw:bq e with
    | false=>
     rw[hwr hlen<|xQ G hw h4];refine hwm hlen ?_
     have:(fz ⟨e,gw,0⟩ r.mem r.g).vq=e:=by
      unfold fz;dsimp only;rw[h4];simp only[show I gw.kind 0=true from Z,show aX true=false from Z,cond_false];cases aX (I e.kind 1)<;>rfl
     rw[this];exact xQ G hw h4
    | true=>
     obtain⟨ln,hl,z⟩:=me hb h4;have hl:e.loc= .ofNat ln:=hl;obtain⟨o,R⟩:=g8 hinv.Gi z;have hp:Ab r.g e= .ofNat (cu r.g e.loc).length:=by unfold Ab;rw[hw];rfl
     have h1:I e.kind 1=false:=by
      cases h1:I e.kind 1 with
      | false=>rfl
      | true=>unfold dD at G;rw[h1] at G;cases G
     refine H9 ?_;rw[hp,Fw (by rw[hl,ez (by rw[hinv.Gi];rfl) R];exact Nat.succ_pos _)];unfold fz;dsimp only;rw[h4];simp only[show I gw.kind 0=true from Z,show aX true=false from Z,cond_false];rw[h1];rfl
 ·have A:I a.kind 0=false:=by rcases hk with e | e | e | e<;>rw[e]<;>rfl
  have u:vg (⟨lr,a,0⟩:ji)=true:=by unfold vg;dsimp only;rw[A];rfl
  have h0:=EV hnx (by rw[M];exact A);have hL:=E (by rw[M];exact u);rw[M] at h0 hL⊢;dsimp only at h0 hL⊢;obtain⟨ln,hl⟩:=iQ (B1.2 h0);have z:ln<r.g.init.length:=by rw[hl,hinv.mem] at hL;exact bu hL
  obtain⟨o,R⟩:=g8 hinv.Gi z;have L:nF (⟨lr,a,0⟩:ji)=a.loc:=by unfold nF;dsimp only;rw[A];rfl
  have hb:ef ⟨lr,a,0⟩ r.g=false:=by
   unfold ef;rw[L,hl,show I (⟨lr,a,0⟩:ji).event.kind 4=false from Z,show bU (.ofNat ln) 0=false from B1.2 (show(0:Int)<=((ln:Nat):Int) from Int.natCast_nonneg _),show bU (.ofNat ln) (.ofNat r.g.init.length)=true from by rw[lX];exact decide_eq_true z];rfl
  rw[hb];have K:eD (⟨lr,a,0⟩:ji) r.mem=bL a ((r.mem[a.loc.toNat]?).getD 0):=by unfold eD;rw[u];rfl
  have Q:L2 (⟨lr,a,0⟩:ji) r.g=((cu r.g a.loc).getLast?).getD ⟨0,0⟩:=by unfold L2;rw[u];rfl
  rw[K,Q];generalize hv:(r.mem[a.loc.toNat]?).getD 0=v;obtain⟨e1,W⟩:=uu (v:=v) hk;refine H9 ?_;unfold fz;rw[L];dsimp only;rw[A,hv];simp only[show I lr.kind 4=false from Z,show aX false=true from Z,cond_true,cond_false];cases h1:I (bL a v).kind 1 with
  | true=>
   have hw:bq (bL a v)=false:=by unfold bq;rw[eqv h1];rfl
   have hp:Ab r.g (bL a v)=0:=by unfold Ab;rw[hw];rfl
   rw[hp];rfl
  | false=>
   have hw:bq (bL a v)=true:=by
    unfold dD at W;rw[h1] at W;unfold bq;rw[show I (bL a v).kind 3=true from W];cases I (bL a v).kind 2<;>rfl
   have hp:Ab r.g (bL a v)= .ofNat (cu r.g a.loc).length:=by unfold Ab;rw[hw,e1];rfl
   rw[hp,Fw (by rw[hl,ez (by rw[hinv.Gi];rfl) R];exact Nat.succ_pos _),e1];rfl
 rw[hn];have K:eD (⟨lr,gw,n⟩:ji) r.mem=lr:=rfl;dsimp only;rw[K];have X:bW lr (.ofNat r.g.init.length)=false:=rfl;rw[hwr hlen X];cases ef ⟨lr,gw,n⟩ r.g with
 | true=>rfl
 | false=>
  refine hwm hlen ?_;have:(fz ⟨lr,gw,n⟩ r.mem r.g).vq=lr:=rfl;rw[this];exact X
theorem F6 {g a:XG} {th pl x:Int} {e:db} {fr:dw} (h:gf g th e fr pl=(some a,x)):x=0:=by
 unfold gf at h;cases h1: !I (cd g) 0 with
 | true=>rw[h1] at h;cases h
 | false=>
 cases h2:bU th 1 with
 | true=>rw[h1,h2] at h;cases h
 | false=>
 cases u:bU (.ofNat g.threads.length) th with
 | true=>rw[h1,h2,u] at h;cases h
 | false=>
 rw[h1,h2,u] at h;simp only[cond_false] at h;split at h
 ·rename_i row frow _ _;cases h4: !bU (.ofNat row.length) 14 with
  | true=>rw[h4] at h;cases h
  | false=>
  rw[h4] at h;cases h5:(bif bq e then(bif bU pl 1 then true else bU (.ofNat (cu g e.loc).length) pl) else !I pl 0) with
  | true=>rw[h5] at h;cases h
  | false=>
  rw[h5] at h;simp only[cond_false] at h;cases z:I (cd<|BQ g (th.toNat-1) e fr (pl.toNat-1) row frow ((g.order[e.loc.toNat]?).getD []) e.loc.toNat) 0 with
  | true=>rw[z] at h;cases h;rfl
  | false=>rw[z] at h;cases h
 cases h
theorem CC {k:Nat} {l:List XC} {r:XM} {t:Nat} {e:Int} (h:e=(eG k l r t).2) (h0:I e 0=false):eG k l r t=(none,e):=by
 rcases u:eG k l r t with ⟨o,x⟩
 rw[u] at h;have h:e=x:=h;subst h;cases o with
 | none=>rfl
 | some r'=>
  exfalso;unfold eG at u;split at u
  ·rename_i c row _ _;cases h1:aX (I (jP k c row r.g) 0) with
   | true=>rw[h1] at u;cases u
   | false=>
    rw[h1] at u;simp only[cond_false] at u;unfold we at u;split at u
    ·rename_i g' x h2;have:=F6 h2;subst this;cases u;cases h0
    cases u
  cases u
def mX (k:Nat) (l:List XC) (r:XM) (p:Int):Option XM×Int:=bif aX (yc k l r.mem r.g) then(none,2) else bif bU p 1 then(none,2) else bif bU (.ofNat l.length) p then(none,2) else eG k l r (p.toNat-1)
theorem xG {k:Nat} {l:List XC} {r:XM} {p:Int} (h1:yc k l r.mem r.g=true) (h2:bU p 1=false) (u:bU (.ofNat l.length) p=false):mX k l r p=eG k l r (p.toNat-1):=by unfold mX;rw[h1,h2,u];rfl
end Go.Ev
namespace Go.Ev
variable [Env]
open Go.Proofs
set_option maxRecDepth 4000
set_option maxHeartbeats 8000000
section
variable {m E E2:Nat} {K:KP} {us:List V} {u:V} {O_:Own}
theorem Am (h:cQ 1 E RU us u O_) (z:us≠[]):∃b c e,u= .slice b 0 us.length c/\O_= [(b,.row us e false)]/\(c= .known us.length∨(c= .upto 1/\e=E))/\us.length<=1048576:=by
 rcases h with ⟨rfl,_,_⟩ | ⟨b,c,cells,e,rfl,rfl,h3,h4,h5,A⟩
 ·exact absurd Z z
 refine⟨b,c,e,Z,?_,h5,A⟩
 have:cells=us:=by
  refine List.ext_getElem B fun i h1 h2=>?_
  have h:=(h4 i us[i]<|gC h2).1;rw[Nat.mul_one,List.drop_eq_getElem_cons h1] at h;exact(List.cons.inj h).1
 rw[this]
theorem lF {b e n:Nat} {c:pH} (hn:us.length=n) (hc:c= .known n∨(c= .upto 1/\e=E)) (hl:n<=1048576) (z:∀u∈us,cS u=some [u]/\iB u=true):cQ 1 E RU us (.slice b 0 n c) [(b,.row us e false)]:=by
 subst hn
 exact .inr ⟨b,c,us,e,Z,Z,(Nat.mul_one _).symm,fun i x h=>by
  obtain⟨h1,h2⟩:=gA.1 h;refine⟨?_,z x<|gB_ h⟩;rw[Nat.mul_one,List.drop_eq_getElem_cons h1,h2];rfl,hc,hl⟩
variable {α:Type} {R:α->List V->Prop} {ls:List (List α)} {I_:Own}
theorem fH.pA (h:fH m E R ls us I_):∀u∈us,cS u=some [u]/\iB u=true:=by
 induction h with
 | nil=>intro u h;cases h
 | snoc _ h1 ih=>
  intro u h;rcases List.mem_append.1 h with h | h
  ·exact ih u h
  rw[List.mem_singleton.1 h];exact h1.leaf
theorem Ju (h:fH m E R ls us I_) (A:cQ 1 E2 RU us u O_) (C:∀e∈I_,K e.1 e.2) (k2:∀e∈O_,K e.1 e.2):bR K 1 (RL K m R) ls u:=by
 rcases h':us with _ | ⟨x,r⟩
 ·have hl:=h.length;rcases A with ⟨_,rfl,_⟩ | ⟨b,c,cells,e,rfl,rfl,h3,h4,h5,F⟩
  ·rw[h'] at hl;exact .inl ⟨eN_ hl.symm,Z⟩
  have G:ls= []:=by rw[h'] at hl;exact eN_ hl.symm
  subst G;refine .inr ⟨b,0,c,cells,e,false,by rw[h'];rfl,?_,k2 _ (.head _),by simp,by simp,fun i x hx=>by simp at hx⟩;rw[h'] at h5;rcases h5 with rfl | ⟨rfl,_⟩
  ·exact .inr ⟨_,Z,nR_ _⟩
  exact .inl Z
 obtain⟨b,c,e,rfl,rfl,h5,F⟩:=Am A (by rw[h'];exact fun e=>by cases e);have hl:=h.length;refine .inr ⟨b,0,c,us,e,false,by rw[hl],?_,k2 _ (.head _),by omega,by omega,fun i x hx=>?_⟩
 ·rcases h5 with rfl | ⟨rfl,_⟩
  ·rw[hl];exact .inr ⟨_,Z,nR_ _⟩
  exact .inl Z
 obtain⟨u,q1,q2⟩:=h.each C i x hx;refine⟨u,?_,q2⟩;obtain⟨z,rfl⟩:=gA.1 q1;rw[show 0+i*1=i from by omega,List.drop_eq_getElem_cons z];rfl
theorem AU.IC {g:XG} {F:V} {G:Own} {L:V} {z:List V} {M Q:Own} {W:V} {A:List V} {X I2:Own} {u3:V} {C:List V} {O3 I3:Own} (h:AU g F G L z M Q W A X I2 u3 C O3 I3)
  (k0:∀e∈G,K e.1 e.2) (k1:∀e∈Q,K e.1 e.2) (k2:∀e∈M,K e.1 e.2) (k3:∀e∈I2,K e.1 e.2) (k4:∀e∈X,K e.1 e.2) (k5:∀e∈I3,K e.1 e.2) (k6:∀e∈O3,K e.1 e.2):eN K g F L W u3:=
 ⟨h.init.kq k0,Ju h.threads h.o1 k1 k2,Ju h.from_ h.o2 k3 k4,Ju h.order h.o3 k5 k6⟩
end
theorem LZ {G:Cx} (hG:Plain G) {K:KP} {g:XG} {a b c d:V} (hg:eN K g a b c d) (A:cd g=0) {tm:Nat} {F:List db} (C:g.threads[tm]?=some F) (hlen:bU (.ofNat F.length) 14=true) (e:db) (fr:dw) (pl:Int) {U:D} {L:Own} (aq:J U K L):
  bk Tryz.prog G 58 [.agg [a,b,c,d],.int .i64 (.ofNat (tm+1)),.agg [.int .i64 e.kind,.int .i64 e.loc,.int .i64 e.order,.int .i64 e.read,.int .i64 e.write],.agg [.int .i64 fr.ia,.int .i64 fr.index],.int .i64 pl] U fun v U'=>
   (gf g (.ofNat (tm+1)) e fr pl=(none,2)/\v= .tuple [.agg [.ax,.ax,.ax,.ax],.int .i64 2]/\J U' K L)∨
   (∃g' a' b' c' d' M,gf g (.ofNat (tm+1)) e fr pl=(some g',0)/\v= .tuple [.agg [a',b',c',d'],T]/\eN (K.ic M) g' a' b' c' d'/\J U' K (M++L)):=by
 have dl:tm<g.threads.length:=(gA.1 C).1;obtain⟨et,ev,bv,bw,ex,dm,eC⟩:=cK A;obtain⟨xf,aa⟩:=cm (show tm<g.from_.length from by rw[bw];exact dl);refine PS hG Tryz.func58 Z<|Pt 2 Z<|kp aq Z (cz Z Z) (fun U b1 aq=>?_);refine kp aq Z (cz Z Z) (fun U b2 aq=>?_);refine kp aq Z (cz Z Z) (fun U b3 aq=>?_);refine kp aq Z (QE (cs:=[.ax,.ax,.ax,.ax])) (fun U b4 aq=>?_);refine On 6 Z<|O Z (QC Z (aq.get 3 Z) (n:=4) (vs:=[_,_,_,_]) Z) Z<|bf Z (Qz Z Z Z) (fun _=>Z) (by have q:=ox hG hg aq;rw[A] at q;exact q) (fun U aq=>?_);refine Pv 4 Z<|Ol 7 Z<|ky Z (an Z) (fun b0=>?_) (fun b0=>?_)
 ·exact absurd b0 (by rw[show bU (.ofNat (tm+1)) 1=false from B1.2 (show(1:Int)<=((tm+1:Nat):Int) by omega)];decide)
 refine P3 aq 3 [1,3] Z Z<|O Z (QD hg.threads Z Z Z (e:=57) Z) Z<|Pv 4 Z<|aE Z (fun ca=>?_) (fun ca=>?_)
 ·exact absurd (bu ca) B
 refine Ot aq 9 [1,3] Z Z<|Qu (e:=57) (m:=1) hg.threads C Z Z Z (cI<|ej B) (fun eS d1 cb d2 cc=>?_);have hr33':=cc;obtain⟨eT,rfl,ce⟩:=hr33';refine O Z (QF aq cb Z Z) Z<|O Z (QD ce Z Z Z (e:=56) Z) Z<|Pv 3 Z<|aE Z (fun cg=>?_) (fun cg=>?_)
 ·exact False.elim (by have h1:F.length=14:=iJ_ (eqv (b:=.ofNat 14) cg);have h2:F.length<14:=bu (b:=14) hlen;omega)
 refine OK 4 Z<|O Z (QC Z (aq.get 3 Z) (n:=4) (vs:=[_,_,_,_]) Z) Z<|cH Z (Qz Z Z Z) (fun _=>Z) (MA hG hg (KK A) aq) ?_;rintro _ U ⟨u0,M0,u1,a6,O1,I1,u2,a7,O2,I2,u3,dr,O3,I3,rfl,Q,aq⟩;have hn1:=Q.threads.length;have hn2:=Q.from_.length;have hO1:=Q.o1;have hO2:=Q.o2;obtain⟨b5,c1,e1,rfl,rfl,ar,aI⟩:=Am hO1 (fun e=>by rw[e] at hn1;simp at hn1;omega);obtain⟨b6,c2,e2,rfl,rfl,aY,a0⟩:=Am hO2 (fun e=>by rw[e] at hn2;simp at hn2;omega);replace aq:J U _ (O3++(I3++((b6,.row a7 e2 false)::(I2++((b5,.row a6 e1 false)::(I1++(M0++_))))))):=aq;refine kp aq Z (QE (cs:=[.ax,.ax,.ax,.ax])) (fun U b7 aq=>?_);refine bO aq Z (QH Z Z Z aq.g0 (m:=4) Z (ah Q.init.leaf.2<|ah Z<|ah Z<|ah Q.o3.leaf.2 aC) (cells':=[_,_,_,_]) Z) Z (fun U aq=>?_);refine OX aq 6 [1] Z Z<|O Z (QB Z aq.pop.aQ.aQ.pop.aQ.pop.aQ.aQ.pop.pop.pop.g0 Z) Z<|PZ 2 Z<|Qu (e:=57) (m:=1) hg.threads C Z Z Z (cI<|ej B) (fun e0 d3 ch d4 ci=>?_);have hr45':=ci;obtain⟨e4,rfl,ck⟩:=hr45';refine O Z (QF aq ch Z Z) Z (O Z (QD ck Z Z Z (e:=56) Z) Z (O Z (Qy (places:=[(0,1),(1,1)]) (zero:=[T,T]) (cs:=[_,_]) Z) Z<|kp aq Z (QE (cs:=[T,T])) (fun U b8 aq=>?_)));refine bO aq Z (QH Z Z Z aq.g0 (m:=2) Z Z (cells':=[_,_]) Z) Z (fun U aq=>?_);refine ON 3 Z (aS (l:=[(0,[]),(1,[]),(2,[]),(3,[]),(4,[]),(5,[]),(6,[]),(7,[]),(8,[]),(9,[]),(10,[]),(11,[]),(12,[1]),(13,[]),(14,[])]) Y Y<|P4 aq 8 [1,1,1,1] Z Z ?_);obtain⟨utt,Mtt,At,Bt,ao,cl,cn,a8⟩:=Q.threads.at C;subst cn;refine al Z Z (eo (e:=57) (m:=1) Z Y Z (cI<|ej B) (show tm<a6.length from(gA.1 ao).1)) Z<|al Z Z (ay Z aq.pop.pop.aQ.aQ.pop.aQ.g0 Y (by rw[eF,show 0+tm*1=tm from by omega];exact ao)) Z<|al Z Z (QC Z aq.pop.pop.aQ.aQ.pop.aQ.pop.aQ.aQ.pop.pop.g0 (n:=5) (vs:=[_,_,_,_,_]) Z) Z<|j1 aq Z Z (bY (e:=56) (m:=5) (z:=[T,T,T,T,T]) (cs:=[_,_,_,_,_]) Y Y Y Y<|bD Z Z Z Z bJ) (fun _=>Z) (fun U b9 aq=>?_);have hpl:=(aq.pull (X:=Mtt) (.there (.there (.there (.cM (.cM (.there (.cM (.there ep.nh))))))))).perm List.perm_middle;obtain⟨U,ut2t,Mt2t,a1,hOt2t,aq⟩:=fJ (P:=Tryz.prog) (ts:= #[57,57]) (t:=57) (e:=56) cl hpl (mh (R:=iU) (x:=e) (m:=5) Z Z (.inr ⟨Z,Z⟩)) iU.leaf (by simp) (by simp) (by have:=bv _ (gB_ C);omega) Z Y Y Y;refine eM Z Z (dM Z Z Z Z Y a1) Z ?_;replace aq:=aq.push (.there (.there (.cM (.cM (.there (.cM (.there ep.nh)))))));refine⟨(bB (bN Z Z Z Z Z (QB Z aq.g1 Z) (hO1.iu (K:=fun _ _=>False)).dX) aV),?_⟩;refine al Z Z (eo (e:=57) (m:=1) Z Y Z (cI<|ej B) (show tm<a6.length from(gA.1 ao).1)) Z ?_;have hltt:=(gA.1 ao).1
 refine gD aq (.there (.there (.cM (.cM (.there (.cM .here)))))) Z Z (gR Z Z hOt2t.leaf.1 aq.pop.pop.aQ.aQ.pop.aQ.g0 (m:=1) Y Z B<|ah hOt2t.leaf.2 Z) Z (fun U aq=>?_);refine⟨aV,?_⟩;rw[fW hltt] at aq;have hO2t:=a8 _ _ _ hOt2t;refine OS 3 Z (aS (l:=[(0,[]),(1,[]),(2,[]),(3,[]),(4,[]),(5,[]),(6,[]),(7,[]),(8,[]),(9,[]),(10,[]),(11,[]),(12,[1]),(13,[]),(14,[])]) Y Y<|P4 aq 8 [2,1,2,1] Z Z ?_);obtain⟨utf,Mtf,Af,Bf,ap,co,cp,a9⟩:=Q.from_.at aa;subst cp;refine al Z Z (eo (e:=74) (m:=1) Z Y Z (cI<|ej B) (show tm<a7.length from(gA.1 ap).1)) Z<|al Z Z (ay Z aq.pop.pop.aQ.aQ.g0 Y (by rw[eF,show 0+tm*1=tm from by omega];exact ap)) Z<|al Z Z (QC Z aq.pop.pop.aQ.aQ.pop.aQ.pop.aQ.aQ.pop.g0 (n:=2) (vs:=[_,_]) Z) Z<|j1 aq Z Z (bY (e:=67) (m:=2) (z:=[T,T]) (cs:=[_,_]) Y Y Y Y<|bD Z Z Z Z bJ) (fun _=>Z) (fun U e5 aq=>?_);have hpl:=(aq.pull (X:=Mtf) (.there (.there (.there (.cM (.cM (.there ep.nh))))))).perm List.perm_middle;obtain⟨U,ut2f,Mt2f,a1,hOt2f,aq⟩:=fJ (P:=Tryz.prog) (ts:= #[74,74]) (t:=74) (e:=67) co hpl (mh (R:=iV) (x:=fr) (m:=2) Z Z (.inr ⟨Z,Z⟩)) iV.leaf (by simp) (by simp) (by have:=mS dm bw bv _ (gB_ aa);omega) Z Y Y Y;refine eM Z Z (dM Z Z Z Z Y a1) Z ?_;replace aq:=aq.push (.there (.there (.cM (.cM (.there ep.nh)))));refine⟨(bB (bN Z Z Z Z Z (QB Z aq.g1 Z) (hO2.iu (K:=fun _ _=>False)).dX) aV),?_⟩;refine al Z Z (eo (e:=74) (m:=1) Z Y Z (cI<|ej B) (show tm<a7.length from(gA.1 ap).1)) Z ?_;have hltf:=(gA.1 ap).1;refine gD aq (.there (.there (.cM (.cM .here)))) Z Z (gR Z Z hOt2f.leaf.1 aq.pop.pop.aQ.aQ.g0 (m:=1) Y Z B<|ah hOt2f.leaf.2 Z) Z (fun U aq=>?_);refine⟨aV,?_⟩;rw[fW hltf] at aq;have hO2f:=a9 _ _ _ hOt2f;refine OS 3 Z<|Pt 2 Z<|O Z (QC Z aq.g1 (n:=4) (vs:=[_,_,_,_]) Z) Z<|O Z (QC Z aq.pop.pop.aQ.aQ.pop.aQ.pop.aQ.aQ.pop.pop.g0 (n:=5) (vs:=[_,_,_,_,_]) Z) Z ?_;replace aq:=aq.app (.there (.there (.cM (.cM (.there (.cM (.there (.cM (.cM (.there (.there (.there (.there .base)))))))))))))
 refine bf Z (Qz Z Z Z) (fun _=>Z) ((F1 hG (AU.IC (g:=(⟨g.init,g.threads.set tm (F++[e]),g.from_.set tm (xf++[fr]),g.order⟩:XG)) ⟨Q.init,hO2t,hO2f,Q.order,lF (b:=b5) List.length_set ar aI hO2t.pA,lF (b:=b6) List.length_set aY a0 hO2f.pA,Q.o3⟩ (fun y hy=>.inr (by simp[hy])) (fun y hy=>.inr (by rcases List.mem_append.1 hy with hy | hy;(simp[hy]);rcases List.mem_append.1 hy with hy | hy<;>simp[hy])) (fun y hy=>.inr (by rw[List.mem_singleton.1 hy];simp)) (fun y hy=>.inr (by rcases List.mem_append.1 hy with hy | hy;(simp[hy]);rcases List.mem_append.1 hy with hy | hy<;>simp[hy])) (fun y hy=>.inr (by rw[List.mem_singleton.1 hy];simp)) (fun y hy=>.inr (by simp[hy])) (fun y hy=>.inr (by simp[hy]))) e aq.keeps).mono fun _ _ hh=>⟨hh.1,J.tk aq hh.2⟩) (fun U aq=>?_);replace aq:=aq.CN (.there (.there (.cM (.cM (.there (.cM (.there (.cM (.cM (.there (.there (.there (.there .base)))))))))))));refine O Z (cV Z) Z<|Pv 2 Z<|aE Z (fun bb=>?_) (fun bb=>?_)
 ·refine Pt 2 Z (O Z (Qy (places:=[(0,1),(1,1),(2,1),(3,1)]) (zero:=[.ax,.ax,.ax,.ax]) (cs:=[_,_,_,_]) Z) Z<|cC aq (.there (.there (.cM (.cM (.there (.cM (.there (.cM (.cM .here))))))))) Z (QH Z Z Z aq.pop.pop.aQ.aQ.pop.aQ.pop.aQ.aQ.g0 (m:=4) Z Z (cells':=[_,_,_,_]) Z) Z (fun U aq=>?_));refine OQ 5 Z ?_;exact br Z Z aq.pop.pop.aQ.aQ.pop.aQ.pop.aQ.aQ.g0 (m:=4) Y Z Z (.inl ⟨tE A C aa hlen<|kA bb,Z,aq.pop.pop.aQ.aQ.pop.aQ.pop.aQ.aQ.pop.pop.pop.pop⟩)
 have be:bW e (.ofNat g.init.length)=true:=eV bb;refine Ol 5 Z<|O Z (QC Z aq.pop.pop.aQ.aQ.pop.aQ.pop.aQ.aQ.pop.pop.g0 (n:=5) (vs:=[_,_,_,_,_]) Z) Z<|bf Z (Qz Z Z Z) (fun _=>Z) (ml hG e aq) (fun U aq=>?_);refine Pv 2 Z<|aE Z (fun ab=>?_) (fun ab=>?_)
 ·refine OI 3 Z ?_;have bi:bq e=true:=ab;obtain⟨ln,xo,ac,am,cv⟩:=Hh A be bi;have hxo56:=j0 A _ (gB_ am);refine PZ 2 Z<|ky Z (an Z) (fun a2=>?_) (fun a2=>?_)
  ·refine OO 16 Z (O Z (Qy (places:=[(0,1),(1,1),(2,1),(3,1)]) (zero:=[.ax,.ax,.ax,.ax]) (cs:=[_,_,_,_]) Z) Z<|cC aq (.there (.there (.cM (.cM (.there (.cM (.there (.cM (.cM .here))))))))) Z (QH Z Z Z aq.pop.pop.aQ.aQ.pop.aQ.pop.aQ.aQ.g0 (m:=4) Z Z (cells':=[_,_,_,_]) Z) Z (fun U aq=>?_));refine Px 4 Z<|aw<|aw (?_);exact br Z Z aq.pop.pop.aQ.aQ.pop.aQ.pop.aQ.aQ.g0 (m:=4) Y Z Z (.inl ⟨oA A C aa hlen (by unfold cT;rw[show bq e=true from ab,ct];rw[show bU pl 1=true from a2];rfl),Z,aq.pop.pop.aQ.aQ.pop.aQ.pop.aQ.aQ.pop.pop.pop.pop⟩)
  obtain⟨pm,rfl⟩:=qj a2;refine P3 aq 2 [3] Z Z<|O Z (QB Z aq.pop.pop.aQ.aQ.pop.aQ.pop.aQ.aQ.pop.pop.pop.g0 Z) Z<|O Z (QA 1 Z) Z<|O Z (QB Z aq.pop.pop.aQ.aQ.pop.aQ.pop.aQ.aQ.pop.pop.g0 Z) Z<|Qu (e:=74) (m:=1) hg.order am Z Z Z (cI ac) (fun e6 d5 cx d6 c0=>?_);have hr92':=c0;obtain⟨e7,rfl,c4⟩:=hr92';refine O Z (QF aq cx Z Z) Z<|O Z (QD c4 Z Z Z (e:=67) Z) Z<|O Z (az Z Z (show _=some (V.int .i64 (.ofNat (xo.length+1))) from cI (bg B))) Z<|Pv 4 Z<|aE Z (fun a5=>?_) (fun a5=>?_)
  ·refine Pt 2 Z (O Z (Qy (places:=[(0,1),(1,1),(2,1),(3,1)]) (zero:=[.ax,.ax,.ax,.ax]) (cs:=[_,_,_,_]) Z) Z<|cC aq (.there (.there (.cM (.cM (.there (.cM (.there (.cM (.cM .here))))))))) Z (QH Z Z Z aq.pop.pop.aQ.aQ.pop.aQ.pop.aQ.aQ.g0 (m:=4) Z Z (cells':=[_,_,_,_]) Z) Z (fun U aq=>?_));refine Px 4 Z<|aw<|aw (?_);exact br Z Z aq.pop.pop.aQ.aQ.pop.aQ.pop.aQ.aQ.g0 (m:=4) Y Z Z (.inl ⟨oA A C aa hlen (by unfold cT;rw[show bq e=true from ab,ct];rw[show bU (.ofNat (pm+1)) 1=false from a2,cf,cv];exact a5),Z,aq.pop.pop.aQ.aQ.pop.aQ.pop.aQ.aQ.pop.pop.pop.pop⟩)
  refine OK 4 Z ?_;have c5:pm<=xo.length:=by have:=bC a5;omega
  refine O Z (QA 3 Z) Z<|O Z (QB Z aq.pop.pop.aQ.aQ.pop.aQ.pop.aQ.aQ.pop.pop.pop.g0 Z) Z<|O Z (QA 1 Z) Z<|O Z (QB Z aq.pop.pop.aQ.aQ.pop.aQ.pop.aQ.aQ.pop.pop.g0 Z) Z<|Qu (e:=74) (m:=1) hg.order am Z Z Z (cI ac) (fun d7 ds bl dx bm=>?_);have hr103':=bm;obtain⟨d8,rfl,a3⟩:=hr103';refine O Z (QF aq bl Z Z) Z (Pv 3 Z (aS (l:=[(0,[]),(1,[]),(2,[]),(3,[]),(4,[]),(5,[]),(6,[]),(7,[]),(8,[]),(10,[]),(11,[]),(13,[]),(14,[]),(15,[]),(16,[]),(9,[1,3,10,11]),(12,[1,3]),(17,[1,3]),(18,[]),(19,[])]) Y Y<|P4 aq 3 [3,1,1] Z Z<|al Z Z (QB Z aq.pop.pop.aQ.aQ.pop.aQ.pop.aQ.aQ.pop.pop.g0 Z) Z<|j1 aq Z Z (bY (e:=67) (m:=2) (z:=[T,T]) (cs:=[]) Y Y Y Y bJ) (fun _=>Z) (fun U d0 aq=>?_)));replace aq:J U _ ([(d0,.row [] 67 false)]++_):=aq;refine P1 3 Z<|tZ (e:=67) (m:=2) (k:=pm) a3 c5 Z Z Z Y Y Z (cI<|ej B) (fun _=>Z) (fun d9 bo=>?_);refine al Z Z (QC Z aq.aQ.g0 (n:=2) (vs:=[_,_]) Z) Z<|j1 aq Z Z (bY (e:=67) (m:=2) (z:=[T,T]) (cs:=[_,_]) Y Y Y Y<|bD Z Z Z Z bJ) (fun _=>Z) (fun U e8 aq=>?_);refine P1 3 Z<|qh (e:=67) (m:=2) (k:=pm) a3 c5 Z Z Z Y Y Z (cI<|ej B) (fun _=>Z) (fun eb bs=>?_);replace aq:=aq.pull (.there .here);refine kL (R:=iV) (m:=2) (e:=67) cQ.empty aq bo iV.leaf (by rw[lT_];show 0+_<=_;omega) Z Z Z Z Z Z Z Z (fun _=>Z) (fun U ee eg hO114 aq=>?_);refine⟨(bB (bN Z Z Z Z Z (QB Z aq.aQ.pop.pop.g0 Z) (Q.o3.iu (K:=fun _ _=>False)).dX)<|bB (bN Z Z Z Z Z (QB Z aq.aQ.pop.pop.pop.aQ.aQ.pop.aQ.pop.aQ.aQ.pop.pop.g0 Z)<|jk _ _)<|bB (bN Z Z Z Z Z (QC Z aq.aQ.pop.g0 (n:=2) (vs:=[_,_]) Z)<|gH<|bS (fL _ _)<|bS (fL _ _) fx)<|bB (xH Z Z Z Z Z (oC (e:=67) (m:=2) (z:=[T,T]) (cs:=[_,_]) Y Y Y Y<|bD Z Z Z Z bJ) aq.aQ.g0<|bS (fL _ _)<|bS (fL _ _) fx) aV),?_⟩;replace aq:=aq.pull (.cM<|ep.here (X:=[_]));refine mN (R:=iV) (m:=2) (e:=67) hO114 aq (eU (m:=2) Z (show iV ⟨.ofNat (tm+1),.ofNat F.length⟩ _ from Z)) iV.leaf (by simp only[List.nil_append,lT_,List.length_cons,List.length_nil];omega) Z Z Z Z Z Z Z Z (fun _=>Z) (fun U el em hO117 aq=>?_);refine⟨(bB (bN Z Z Z Z Z (QB Z aq.aQ.pop.g0 Z) (Q.o3.iu (K:=fun _ _=>False)).dX)<|bB (bN Z Z Z Z Z (QB Z aq.aQ.pop.pop.aQ.aQ.pop.aQ.pop.aQ.aQ.pop.pop.g0 Z)<|jk _ _) aV),?_⟩;refine kL (R:=iV) (m:=2) (e:=67) hO117 aq bs iV.leaf (by simp only[List.nil_append,lA_,lT_,lD_,List.length_singleton,List.length_cons,List.length_nil];omega) Z Z Z Z Z Z Z Z (fun _=>Z) (fun U en er hO122 aq=>?_)
  refine⟨(bB (bN Z Z Z Z Z (QB Z aq.aQ.pop.g0 Z) (Q.o3.iu (K:=fun _ _=>False)).dX)<|bB (bN Z Z Z Z Z (QB Z aq.aQ.pop.pop.aQ.aQ.pop.aQ.pop.aQ.aQ.pop.pop.g0 Z)<|jk _ _) aV),?_⟩;have hn3:=Q.order.length;have hO3:=Q.o3;obtain⟨b3_,c3,e3,rfl,rfl,c7,c8⟩:=Am hO3 (fun e=>by rw[e] at hn3;have:=(gA.1 am).1;simp at hn3;omega);rw[List.singleton_append] at aq;obtain⟨uto,Mto,Ao,Bo,c9,es,dd,bt⟩:=Q.order.at am;subst dd;have hlto:=(gA.1 c9).1;refine al Z Z (eo (e:=74) (m:=1) Z Y Z (cI ac) (show ln<dr.length from hlto)) Z<|gD aq (.cM (.there (.there .here))) Z Z (gR Z Z hO122.leaf.1 aq.aQ.pop.pop.g0 (m:=1) Y Z B<|ah hO122.leaf.2 Z) Z (fun U aq=>?_);refine⟨aV,?_⟩;rw[fW hlto] at aq;have hO2o:=bt _ _ _ (show cQ 2 67 iV (xo.take pm++⟨.ofNat (tm+1),.ofNat F.length⟩::xo.drop pm) _ _ from by have q:=hO122;rwa[lQ_] at q);refine OS 3 Z<|Pt 2 Z<|O Z (QC Z aq.aQ.pop.g0 (n:=4) (vs:=[_,_,_,_]) Z) Z ?_;replace aq:=aq.app (.cM (.there (.there (.there (.cM (.there (.cM (.there (.cM (.cM (.there (.there (.there (.there .base))))))))))))));refine bf Z (Qz Z Z Z) (fun _=>Z) ((ox hG (g:=eE g tm e fr (.ofNat (pm+1)) F xf) (by rw[sP (pm:=pm) (fr:=fr) (row:=F) (frow:=xf) (tm:=tm) bi ac am];exact(AU.IC (g:=(⟨g.init,g.threads.set tm (F++[e]),g.from_.set tm (xf++[fr]),g.order.set ln (xo.take pm++⟨.ofNat (tm+1),.ofNat F.length⟩::xo.drop pm)⟩:XG)) ⟨Q.init,hO2t,hO2f,hO2o,lF (b:=b5) List.length_set ar aI hO2t.pA,lF (b:=b6) List.length_set aY a0 hO2f.pA,lF (b:=b3_) List.length_set c7 c8 hO2o.pA⟩ (fun y hy=>.inr (by simp[hy])) (fun y hy=>.inr (by rcases List.mem_append.1 hy with hy | hy;(simp[hy]);rcases List.mem_append.1 hy with hy | hy<;>simp[hy])) (fun y hy=>.inr (by rw[List.mem_singleton.1 hy];simp)) (fun y hy=>.inr (by rcases List.mem_append.1 hy with hy | hy;(simp[hy]);rcases List.mem_append.1 hy with hy | hy<;>simp[hy])) (fun y hy=>.inr (by rw[List.mem_singleton.1 hy];simp)) (fun y hy=>.inr (by rcases List.mem_append.1 hy with hy | hy;(simp[hy]);rcases List.mem_append.1 hy with hy | hy<;>simp[hy])) (fun y hy=>.inr (by rw[List.mem_singleton.1 hy];simp)))) aq.keeps).mono fun _ _ hh=>⟨hh.1,J.tk aq hh.2⟩) (fun U aq=>?_);replace aq:=aq.CN (.cM (.there (.there (.there (.cM (.there (.cM (.there (.cM (.cM (.there (.there (.there (.there .base))))))))))))));refine Pv 3 Z<|aE Z (fun W=>?_) (fun W=>?_)
  ·refine Pt 2 Z (O Z (Qy (places:=[(0,1),(1,1),(2,1),(3,1)]) (zero:=[.ax,.ax,.ax,.ax]) (cs:=[_,_,_,_]) Z) Z<|cC aq (.cM (.there (.there (.there (.cM (.there (.cM (.there (.cM (.cM .here)))))))))) Z (QH Z Z Z aq.aQ.pop.pop.pop.aQ.pop.aQ.pop.aQ.aQ.g0 (m:=4) Z Z (cells':=[_,_,_,_]) Z) Z (fun U aq=>?_));refine OQ 5 Z ?_;exact br Z Z aq.aQ.pop.pop.pop.aQ.pop.aQ.pop.aQ.aQ.g0 (m:=4) Y Z Z (.inl ⟨tD A C aa hlen<|bT W,Z,aq.aQ.pop.pop.pop.aQ.pop.aQ.pop.aQ.aQ.pop.pop.pop.pop⟩)
  refine OK 4 Z<|O Z (QC Z aq.aQ.pop.g0 (n:=4) (vs:=[_,_,_,_]) Z) Z<|cC aq (.cM (.there (.there (.there (.cM (.there (.cM (.there (.cM (.cM .here)))))))))) Z (QH Z Z Z aq.aQ.pop.pop.pop.aQ.pop.aQ.pop.aQ.aQ.g0 (m:=4) Z (ah Q.init.leaf.2<|ah Z<|ah Z<|ah Q.o3.leaf.2 aC) (cells':=[_,_,_,_]) Z) Z (fun U aq=>?_);refine Px 4 Z ?_;exact br Z Z aq.aQ.pop.pop.pop.aQ.pop.aQ.pop.aQ.aQ.g0 (m:=4) Y Z Z (.inr ⟨_,_,_,_,_,_,AZ A C aa hlen (by unfold cT;rw[show bq e=true from ab,ct];rw[show bU (.ofNat (pm+1)) 1=false from a2,cf,cv];exact a5)<|bj W,Z,(by rw[sP (pm:=pm) (fr:=fr) (row:=F) (frow:=xf) (tm:=tm) bi ac am];exact(AU.IC (g:=(⟨g.init,g.threads.set tm (F++[e]),g.from_.set tm (xf++[fr]),g.order.set ln (xo.take pm++⟨.ofNat (tm+1),.ofNat F.length⟩::xo.drop pm)⟩:XG)) ⟨Q.init,hO2t,hO2f,hO2o,lF (b:=b5) List.length_set ar aI hO2t.pA,lF (b:=b6) List.length_set aY a0 hO2f.pA,lF (b:=b3_) List.length_set c7 c8 hO2o.pA⟩ (fun y hy=>.inr (by simp[hy])) (fun y hy=>.inr (by rcases List.mem_append.1 hy with hy | hy;(simp[hy]);rcases List.mem_append.1 hy with hy | hy<;>simp[hy])) (fun y hy=>.inr (by rw[List.mem_singleton.1 hy];simp)) (fun y hy=>.inr (by rcases List.mem_append.1 hy with hy | hy;(simp[hy]);rcases List.mem_append.1 hy with hy | hy<;>simp[hy])) (fun y hy=>.inr (by rw[List.mem_singleton.1 hy];simp)) (fun y hy=>.inr (by rcases List.mem_append.1 hy with hy | hy;(simp[hy]);rcases List.mem_append.1 hy with hy | hy<;>simp[hy])) (fun y hy=>.inr (by rw[List.mem_singleton.1 hy];simp)))),aq.app (.cM (.there (.there (.there (.cM (.there (.cM (.there (.cM (.cM (.there (.there (.there (.there .base))))))))))))))⟩)
 refine Pt 4 Z<|Pv 2 Z<|aE Z (fun a4=>?_) (fun a4=>?_)
 ·refine Pt 2 Z (O Z (Qy (places:=[(0,1),(1,1),(2,1),(3,1)]) (zero:=[.ax,.ax,.ax,.ax]) (cs:=[_,_,_,_]) Z) Z<|cC aq (.there (.there (.cM (.cM (.there (.cM (.there (.cM (.cM .here))))))))) Z (QH Z Z Z aq.pop.pop.aQ.aQ.pop.aQ.pop.aQ.aQ.g0 (m:=4) Z Z (cells':=[_,_,_,_]) Z) Z (fun U aq=>?_));refine OQ 5 Z ?_;exact br Z Z aq.pop.pop.aQ.aQ.pop.aQ.pop.aQ.aQ.g0 (m:=4) Y Z Z (.inl ⟨oA A C aa hlen (by unfold cT;rw[show bq e=false from ab,cf,show I pl 0=false from bT a4];rfl),Z,aq.pop.pop.aQ.aQ.pop.aQ.pop.aQ.aQ.pop.pop.pop.pop⟩)
 refine Ol 5 Z<|O Z (QC Z aq.g1 (n:=4) (vs:=[_,_,_,_]) Z) Z ?_;replace aq:=aq.app (.there (.there (.cM (.cM (.there (.cM (.there (.cM (.cM (.there (.there (.there (.there .base)))))))))))));refine bf Z (Qz Z Z Z) (fun _=>Z) ((ox hG (g:=eE g tm e fr pl F xf) (by rw[vt (pl:=pl) (fr:=fr) (row:=F) (frow:=xf) (tm:=tm) ab];exact(AU.IC (g:=(⟨g.init,g.threads.set tm (F++[e]),g.from_.set tm (xf++[fr]),g.order⟩:XG)) ⟨Q.init,hO2t,hO2f,Q.order,lF (b:=b5) List.length_set ar aI hO2t.pA,lF (b:=b6) List.length_set aY a0 hO2f.pA,Q.o3⟩ (fun y hy=>.inr (by simp[hy])) (fun y hy=>.inr (by rcases List.mem_append.1 hy with hy | hy;(simp[hy]);rcases List.mem_append.1 hy with hy | hy<;>simp[hy])) (fun y hy=>.inr (by rw[List.mem_singleton.1 hy];simp)) (fun y hy=>.inr (by rcases List.mem_append.1 hy with hy | hy;(simp[hy]);rcases List.mem_append.1 hy with hy | hy<;>simp[hy])) (fun y hy=>.inr (by rw[List.mem_singleton.1 hy];simp)) (fun y hy=>.inr (by simp[hy])) (fun y hy=>.inr (by simp[hy])))) aq.keeps).mono fun _ _ hh=>⟨hh.1,J.tk aq hh.2⟩) (fun U aq=>?_);replace aq:=aq.CN (.there (.there (.cM (.cM (.there (.cM (.there (.cM (.cM (.there (.there (.there (.there .base)))))))))))));refine Pv 3 Z<|aE Z (fun W=>?_) (fun W=>?_)
 ·refine Pt 2 Z (O Z (Qy (places:=[(0,1),(1,1),(2,1),(3,1)]) (zero:=[.ax,.ax,.ax,.ax]) (cs:=[_,_,_,_]) Z) Z<|cC aq (.there (.there (.cM (.cM (.there (.cM (.there (.cM (.cM .here))))))))) Z (QH Z Z Z aq.pop.pop.aQ.aQ.pop.aQ.pop.aQ.aQ.g0 (m:=4) Z Z (cells':=[_,_,_,_]) Z) Z (fun U aq=>?_));refine OQ 5 Z ?_;exact br Z Z aq.pop.pop.aQ.aQ.pop.aQ.pop.aQ.aQ.g0 (m:=4) Y Z Z (.inl ⟨tD A C aa hlen<|bT W,Z,aq.pop.pop.aQ.aQ.pop.aQ.pop.aQ.aQ.pop.pop.pop.pop⟩)
 refine OK 4 Z<|O Z (QC Z aq.g1 (n:=4) (vs:=[_,_,_,_]) Z) Z<|cC aq (.there (.there (.cM (.cM (.there (.cM (.there (.cM (.cM .here))))))))) Z (QH Z Z Z aq.pop.pop.aQ.aQ.pop.aQ.pop.aQ.aQ.g0 (m:=4) Z (ah Q.init.leaf.2<|ah Z<|ah Z<|ah Q.o3.leaf.2 aC) (cells':=[_,_,_,_]) Z) Z (fun U aq=>?_);refine Px 4 Z ?_;exact br Z Z aq.pop.pop.aQ.aQ.pop.aQ.pop.aQ.aQ.g0 (m:=4) Y Z Z (.inr ⟨_,_,_,_,_,_,AZ A C aa hlen (by unfold cT;rw[show bq e=false from ab,cf,show I pl 0=true from bj a4];rfl)<|bj W,Z,(by rw[vt (pl:=pl) (fr:=fr) (row:=F) (frow:=xf) (tm:=tm) ab];exact(AU.IC (g:=(⟨g.init,g.threads.set tm (F++[e]),g.from_.set tm (xf++[fr]),g.order⟩:XG)) ⟨Q.init,hO2t,hO2f,Q.order,lF (b:=b5) List.length_set ar aI hO2t.pA,lF (b:=b6) List.length_set aY a0 hO2f.pA,Q.o3⟩ (fun y hy=>.inr (by simp[hy])) (fun y hy=>.inr (by rcases List.mem_append.1 hy with hy | hy;(simp[hy]);rcases List.mem_append.1 hy with hy | hy<;>simp[hy])) (fun y hy=>.inr (by rw[List.mem_singleton.1 hy];simp)) (fun y hy=>.inr (by rcases List.mem_append.1 hy with hy | hy;(simp[hy]);rcases List.mem_append.1 hy with hy | hy<;>simp[hy])) (fun y hy=>.inr (by rw[List.mem_singleton.1 hy];simp)) (fun y hy=>.inr (by simp[hy])) (fun y hy=>.inr (by simp[hy])))),aq.app (.there (.there (.cM (.cM (.there (.cM (.there (.cM (.cM (.there (.there (.there (.there .base)))))))))))))⟩)
theorem Dr {G:Cx} (u:Plain G) {K:KP} (a:rj) (vv:Int) {U:D} {L:Own} (aq:J U K L):bk Tryz.prog G 56 [.agg [.int .i64 a.kind,.int .i64 a.loc,.int .i64 a.order,.int .i64 a.a,.int .i64 a.b],.int .i64 vv] U fun v U'=>v= .tuple [.agg<|ints (bL a vv).ints,.int .i64<|gY a]/\J U' K L:=by
 refine PS u Tryz.func56 Z<|Pt 2 Z<|kp aq Z (cz Z Z) (fun U b1 aq=>?_);refine kp aq Z (QE (cs:=[T,T,T,T,T])) (fun U b2 aq=>?_);refine OO 5 Z<|O Z (QC Z aq.g1 (n:=5) (vs:=[_,_,_,_,_]) Z) Z<|vQ 1 Z<|bf Z (Qz Z Z Z) (fun _=>Z) (Bu u a vv aq) (fun U aq=>?_);refine PZ 2 Z<|bO aq Z (QH Z Z Z aq.g0 (m:=5) Z Z (cells':=[_,_,_,_,_]) Z) Z (fun U aq=>?_);refine Px 4 Z ?_;exact br Z Z aq.g0 (m:=5) Y Z Z ⟨Z,aq.pop.pop⟩
theorem Fj {l:List Int} {u:V} {M:Own} (h:cQ 1 2 dy l u M) (z:l≠[]):∃b c e,u= .slice b 0 l.length c/\M= [(b,.row (ints l) e false)]/\(c= .known l.length∨(c= .upto 1/\e=2))/\l.length<=1048576:=by
 rcases h with ⟨rfl,_,_⟩ | ⟨b,c,cells,e,rfl,rfl,h3,h4,h5,A⟩
 ·exact absurd Z z
 refine⟨b,c,e,Z,?_,h5,A⟩
 have:cells=ints l:=by
  unfold ints;refine List.ext_getElem (by rw[lM_];omega) fun i h1 h2=>?_
  rw[lM_] at h2;have h:=h4 i l[i] (gC h2);have h:(cells.drop (i*1)).take 1= [.int .i64 l[i]]:=h;rw[Nat.mul_one,List.drop_eq_getElem_cons h1] at h;rw[List.getElem_map];exact(List.cons.inj h).1
 rw[this]
theorem Fi {l:List Int} {b e n:Nat} {c:pH} (hn:l.length=n) (hc:c= .known n∨(c= .upto 1/\e=2)) (hl:n<=1048576):cQ 1 2 dy l (.slice b 0 n c) [(b,.row (ints l) e false)]:=by
 subst hn
 exact .inr ⟨b,c,ints l,e,Z,Z,by unfold ints;rw[lM_,Nat.mul_one],fun i x h=>by
  obtain⟨h1,h2⟩:=gA.1 h;show((ints l).drop (i*1)).take 1= [.int .i64 x];unfold ints;have u:i<(l.map<|V.int .i64).length:=by rw[lM_];exact h1
  rw[Nat.mul_one,List.drop_eq_getElem_cons u,List.getElem_map,h2];rfl,hc,hl⟩
theorem ints_set (l:List Int) (i:Nat) (v:Int):(ints l).set i (.int .i64 v)=ints (l.set i v):=by unfold ints;rw[List.map_set]
theorem HY {G:Cx} (hG:Plain G) {K:KP} {k:Nat} {l:List XC} {lv:V} (hl:bR K 2 (mY K k) l lv) (hF:AR k l) {r:XM} {mv:V} (a6:bR K 1 dy r.mem mv) {a b c d:V} (hg:eN K r.g a b c d) (p:Int) {U:D} {L:Own} (aq:J U K L):
  bk Tryz.prog G 21 [lv,.agg [mv,a,b,c,d],.int .i64 p] U fun v U'=>(∃e,v= .tuple [.agg [.ax,.ax,.ax,.ax,.ax],.int .i64 e]/\I e 0=false/\mX k l r p=(none,e)/\J U' K L)∨
   ∃K1 r' m' a' b' c' d',v= .tuple [.agg [m',a',b',c',d'],T]/\mX k l r p=(some r',0)/\KP.le K K1/\bR K1 1 dy r'.mem m'/\eN K1 r'.g a' b' c' d'/\J U' K1 L:=by
 refine PS hG Tryz.func21 Z<|Pt 2 Z<|kp aq Z (cz Z Z) (fun U b1 aq=>?_);refine kp aq Z (QE (cs:=[.ax,.ax,.ax,.ax,.ax])) (fun U b2 aq=>?_);refine On 7 Z<|O Z (QC Z aq.g1 (n:=5) (vs:=[_,_,_,_,_]) Z) Z<|bf Z (Qz Z Z Z) (fun _=>Z) (Ku hG hl hF a6 hg aq) (fun U aq=>?_);refine O Z (cV Z) Z<|ky Z (an Z) (fun a7=>?_) (fun a7=>?_)
 ·refine OO 14 Z (O Z (Qy (places:=[(0,1),(1,4)]) (zero:=[.ax,.ax,.ax,.ax,.ax]) (cs:=[_,_,_,_,_]) Z) Z<|bO aq Z (QH Z Z Z aq.g0 (m:=5) Z Z (cells':=[_,_,_,_,_]) Z) Z (fun U aq=>?_));refine OQ 5 Z ?_;exact br Z Z aq.g0 (m:=5) Y Z Z (.inl ⟨2,Z,Z,by unfold mX;rw[kA a7];rfl,aq.pop.pop⟩)
 refine PZ 3 Z<|ky Z (an Z) (fun a8=>?_) (fun a8=>?_)
 ·refine OO 10 Z (O Z (Qy (places:=[(0,1),(1,4)]) (zero:=[.ax,.ax,.ax,.ax,.ax]) (cs:=[_,_,_,_,_]) Z) Z<|bO aq Z (QH Z Z Z aq.g0 (m:=5) Z Z (cells':=[_,_,_,_,_]) Z) Z (fun U aq=>?_));refine OQ 5 Z ?_;exact br Z Z aq.g0 (m:=5) Y Z Z (.inl ⟨2,Z,Z,by unfold mX;rw[eV a7,a8];rfl,aq.pop.pop⟩)
 refine PZ 2 Z<|O Z (QD hl Z Z Z (e:=33) Z) Z<|Pv 4 Z<|aE Z (fun bv=>?_) (fun bv=>?_)
 ·refine Pt 2 Z (O Z (Qy (places:=[(0,1),(1,4)]) (zero:=[.ax,.ax,.ax,.ax,.ax]) (cs:=[_,_,_,_,_]) Z) Z<|bO aq Z (QH Z Z Z aq.g0 (m:=5) Z Z (cells':=[_,_,_,_,_]) Z) Z (fun U aq=>?_));refine OQ 5 Z ?_;exact br Z Z aq.g0 (m:=5) Y Z Z (.inl ⟨2,Z,Z,by unfold mX;rw[eV a7,a8,bv];rfl,aq.pop.pop⟩)
 refine OJ 3 Z (aS (l:=[(0,[]),(1,[]),(2,[]),(3,[]),(4,[]),(5,[]),(6,[]),(7,[]),(8,[]),(9,[]),(10,[]),(11,[]),(16,[]),(12,[16]),(13,[]),(14,[]),(15,[]),(17,[]),(18,[])]) Y Y ?_);have b0:yc k l r.mem r.g=true:=eV a7;have hinv:tC k l r:=Fk b0;have hck:=hinv.Gi;obtain⟨dl,eb,dm,ee,cg,eg,el⟩:=cK hck;obtain⟨tp,rfl⟩:=qj a8;have ch:tp<l.length:=by have:=bC bv;omega
 have em:l.length<=4:=by rw[<-hinv.len];exact dl
 obtain⟨xc,ap⟩:=cm ch;obtain⟨row,A⟩:=cm (show tp<r.g.threads.length from by rw[hinv.len];exact ch);obtain⟨dr,ds⟩:=hF xc (gB_ ap);have hrl:=dm row (gB_ A);have hR:=xG b0 a8 bv;have hR:mX k l r (.ofNat (tp+1))=eG k l r tp:=hR;refine P1 3 Z<|Qv (e:=33) (m:=2) hl ap Z Z Z Z (cI<|ej B) (fun en dx ci d0 ck=>?_);have hr36':=ck;obtain⟨er,rfl,cl⟩:=hr36';refine al Z Z (QG aq ci Z Z) Z<|P4 aq 5 [1,1,1] Z Z<|Qv (e:=57) (m:=1) hg.threads A Z Z Z Z (cI<|ej B) (fun es d1 cn d3 co=>?_);have hr43':=co;obtain⟨et,rfl,cp⟩:=hr43';refine al Z Z (QF aq cn Z Z) Z<|pB aq Z Z (QE (cs:=[T,T,T,T,T,T,T,T,T,T,T])) (fun _=>Z) (fun U b3 aq=>?_);refine cA Z Z (Qz Z Z Z) (fun _=>Z) (HW hG cl dr ds cp B aq) (fun U aq=>?_);refine⟨(bB (iq Z Z Z Z Z (cs:=[T,T,T,T,T,T,T,T,T,T,T]) (e:=87) Y aq.g0 Y) aV),?_⟩;refine P1 3 Z<|kb aq Z Z (QH Z Z Z aq.g0 (m:=11) Z Z (cells':=[_,_,_,_,_,_,_,_,_,_,_]) Z) Z (fun U aq=>?_);refine⟨aV,?_⟩;refine OS 4 Z<|PA aq 5 [10,0] Z Z<|Pv 2 Z<|aE Z (fun a5=>?_) (fun a5=>?_)
 ·refine Pt 2 Z (O Z (Qy (places:=[(0,1),(1,4)]) (zero:=[.ax,.ax,.ax,.ax,.ax]) (cs:=[_,_,_,_,_]) Z) Z<|eh aq Z (QH Z Z Z aq.g1 (m:=5) Z Z (cells':=[_,_,_,_,_]) Z) Z (fun U aq=>?_));refine OQ 5 Z ?_;exact br Z Z aq.g1 (m:=5) Y Z Z (.inl ⟨10,Z,Z,by rw[hR];exact JF hinv ap A<|bT a5,aq.pop.pop.pop⟩)
 refine Ot aq 10 [1,1,2] Z Z<|Qu (e:=57) (m:=1) hg.threads A Z Z Z (cI<|ej B) (fun ev d4 cv d5 cx=>?_);have hr57':=cx;obtain⟨ex,rfl,c0⟩:=hr57';refine O Z (QF aq cv Z Z) Z<|O Z (QD c0 Z Z Z (e:=56) Z) Z<|Pv 3 Z<|aE Z (fun a9=>?_) (fun a9=>?_)
 ·refine Pt 2 Z (O Z (Qy (places:=[(0,1),(1,4)]) (zero:=[.ax,.ax,.ax,.ax,.ax]) (cs:=[_,_,_,_,_]) Z) Z<|eh aq Z (QH Z Z Z aq.g1 (m:=5) Z Z (cells':=[_,_,_,_,_]) Z) Z (fun U aq=>?_));refine OQ 5 Z ?_;exact br Z Z aq.g1 (m:=5) Y Z Z (.inl ⟨3,Z,Z,by rw[hR];exact JG hinv ap A (bj a5)<|bT a9,aq.pop.pop.pop⟩)
 refine OV aq 5 [0] Z Z<|O Z (QC Z aq.g0 (n:=5) (vs:=[_,_,_,_,_]) Z) Z<|kp aq Z (QE (cs:=[T,T,T,T,T])) (fun U b4 aq=>?_);refine bO aq Z (QH Z Z Z aq.g0 (m:=5) Z Z (cells':=[_,_,_,_,_]) Z) Z (fun U aq=>?_);refine OO 4 Z<|kp aq Z (QE (cs:=[T,T])) (fun U b5 aq=>?_);refine OW aq 11 [5,0,2] Z Z<|aE Z (fun aI=>?_) (fun aI=>?_)
 ·refine OU aq 8 [5,1,2,0,4] Z Z<|O Z (QD a6 Z Z Z (e:=2) Z) Z<|Pv 3 Z<|aE Z (fun cb=>?_) (fun cb=>?_)
  ·refine Pt 2 Z (O Z (Qy (places:=[(0,1),(1,4)]) (zero:=[.ax,.ax,.ax,.ax,.ax]) (cs:=[_,_,_,_,_]) Z) Z<|jz aq Z (QH Z Z Z (aq.get 3 Z) (m:=5) Z Z (cells':=[_,_,_,_,_]) Z) Z (fun U aq=>?_));refine Px 4 Z<|aw<|aw (?_);exact br Z Z (aq.get 3 Z) (m:=5) Y Z Z (.inl ⟨2,Z,Z,by rw[hR];exact JH hinv ap A (bj a5) (bj a9) aI<|bT cb,aq.pop.pop.pop.pop.pop⟩)
  refine OJ 3 Z<|aS (l:=zp [0,1,2,3,4,5,6,7,8,9,10,11,12,13]) Y Y<|al Z Z (QA 5 Z) Z<|al Z Z (QC Z (aq.get 2 Z) (n:=5) (vs:=[_,_,_,_,_]) Z) Z<|P4 aq 5 [0,4,5,1,2] Z Z ?_;have hlt74:=bj cb;obtain⟨ln,bw⟩:=iQ (B1.2<|EV (q8 hinv ap A)<|bT aI);obtain⟨x84,bb⟩:=cm (show ln<r.mem.length from by rw[bw] at hlt74;exact bu hlt74);refine Qv (e:=2) (m:=1) a6 bb Z Z Z Z (cI bw) (fun eC d6 c1 d7 c3=>?_);obtain rfl:=c3;refine al Z Z (QF aq c1 Z Z) Z<|cA Z Z (Qz Z Z Z) (fun _=>Z) (Dr hG (bI k xc row).1.ask x84 aq) (fun U aq=>?_);refine⟨aV,?_⟩;refine P1 3 Z<|z9 aq Z Z (QH Z Z Z aq.g1 (m:=5) Z Z (cells':=[_,_,_,_,_]) Z) Z (fun U aq=>?_);refine⟨aV,?_⟩;refine OS 3 Z<|P2 aq 2 [1] Z Z<|O Z (QC Z (aq.get 4 Z) (n:=4) (vs:=[_,_,_,_]) Z) Z<|P3 aq 3 [5,1,2] Z Z<|cH Z (Qz Z Z Z) (fun _=>Z) (nR hG hg _ aq) ?_;rintro eS U ⟨eT,hM94,aq⟩;obtain⟨K1,aY,c4,aq⟩:=aq.fy;have hw:=hM94.kq (K:=K1) fun y hy=>c4 _ hy;have hg1:=hg.mono aY;have hmv1:=a6.mono aY (fun _ _ h=>h)
  refine Pw 6 Z<|O Z (QD hw Z Z Z (e:=67) Z) Z<|vQ 1 Z ?_;have e0:0<(cu r.g (bI k xc row).1.ask.loc).length:=by obtain⟨o,ho⟩:=g8 hck (show ln<r.g.init.length from by rw[<-hinv.mem];exact(gA.1 bb).1);rw[bw,ez (by rw[hck];rfl) ho];exact Nat.succ_pos _
  obtain⟨x99,ca⟩:=cm (show(cu r.g (bI k xc row).1.ask.loc).length-1<(cu r.g (bI k xc row).1.ask.loc).length from by omega);refine Qu (e:=67) (m:=2) hw ca Z Z Z (cI<|kY (b:=1) B hw.bG) (fun e2 d8 c5 d9 c7=>?_);obtain rfl:=c7;refine O Z (QG aq c5 Z Z) Z<|bO aq Z (QH Z Z Z aq.g0 (m:=2) Z Z (cells':=[_,_]) Z) Z (fun U aq=>?_);refine OO 4 Z ?_;replace aq:=aq.sub (.cons_cons _ (.cons_cons _ (.cons _ (.cons_cons _ (.cons_cons _ (.refl _))))));refine Pv 3 Z ?_;refine jv ([13]++rg 101 14) (fun t U=>∃(pl:Int),pl=Ab r.g (bL (bI k xc row).1.ask x84)/\t.get 13=some (.int .i64 pl)/\J U K1 ((b5,.row [.int .i64 x99.ia,.int .i64 x99.index] 67 false)::(b4,.row [.int .i64 (bL (bI k xc row).1.ask x84).kind,.int .i64 (bL (bI k xc row).1.ask x84).loc,.int .i64 (bL (bI k xc row).1.ask x84).order,.int .i64 (bL (bI k xc row).1.ask x84).read,.int .i64 (bL (bI k xc row).1.ask x84).write] 56 false)::(b2,.row [.ax,.ax,.ax,.ax,.ax] 44 false)::(b1,.row [mv,a,b,c,d] 44 false)::L)) ?_ ?_
  ·refine PA aq 5 [0,1] Z Z<|ky Z (an Z) (fun ab=>?_) (fun ab=>?_)
   ·refine PE aq 9 [1] Z Z<|O Z (QC Z (aq.get 3 Z) (n:=4) (vs:=[_,_,_,_]) Z) Z<|P3 aq 2 [1,1] Z Z<|cH Z (Qz Z Z Z) (fun _=>Z) (nR hG hg1 _ aq) ?_;rintro be U ⟨bi,hM113,aq⟩;refine O Z (xS hM113 Z Z Z (e:=67) Y Z) Z<|PY 2 Z ?_;replace aq:=aq.sub (.trans (.cons_cons _ (.cons_cons _ (.cons_cons _ (.cons_cons _ (.refl _)))))<|List.sublist_append_right _ _);exact⟨Z,oF,_,(by unfold Ab;rw[show bq (bL (bI k xc row).1.ask x84)=true from by unfold bq;rw[show I (bL (bI k xc row).1.ask x84).kind 2=true from ab];rfl];rfl),Z,aq⟩
   refine PC aq 6 [0,1] Z Z<|aE Z (fun am=>?_) (fun am=>?_)
   ·refine P2 aq 2 [1] Z Z<|O Z (QC Z (aq.get 3 Z) (n:=4) (vs:=[_,_,_,_]) Z) Z<|P3 aq 2 [1,1] Z Z<|cH Z (Qz Z Z Z) (fun _=>Z) (nR hG hg1 _ aq) ?_;rintro be U ⟨bi,hM113,aq⟩;refine O Z (xS hM113 Z Z Z (e:=67) Y Z) Z<|PY 2 Z ?_;replace aq:=aq.sub (.trans (.cons_cons _ (.cons_cons _ (.cons_cons _ (.cons_cons _ (.refl _)))))<|List.sublist_append_right _ _);exact⟨Z,oF,_,(by unfold Ab;rw[show bq (bL (bI k xc row).1.ask x84)=true from by unfold bq;rw[show I (bL (bI k xc row).1.ask x84).kind 2=false from ab];exact am];rfl),Z,aq⟩
   refine aG ?_;exact⟨Z,oF,_,(by unfold Ab;rw[show bq (bL (bI k xc row).1.ask x84)=false from by unfold bq;rw[show I (bL (bI k xc row).1.ask x84).kind 2=false from ab];exact am];rfl),Z,aq⟩
  clear aq;intro t U ar hI;obtain⟨pl,ao,bl,aq⟩:=hI;obtain⟨oo,rfl⟩:=ar.q1 bl Z;refine PA aq 3 [1] Z Z<|O Z (QC Z (aq.get 3 Z) (n:=4) (vs:=[_,_,_,_]) Z) Z<|vQ 1 Z<|O Z (QC Z aq.g1 (n:=5) (vs:=[_,_,_,_,_]) Z) Z<|O Z (QC Z aq.g0 (n:=2) (vs:=[_,_]) Z) Z<|vQ 1 Z ?_;have hlen:bU (.ofNat row.length) 14=true:=bj a9;have hstep:=CE hinv ap A (bj a5) hlen (fun _=>hlt74);have h1:eD (bI k xc row).1 r.mem=bL (bI k xc row).1.ask x84:=by unfold eD;rw[show vg (bI k xc row).1=true from aI,bw,show(Int.ofNat ln).toNat=ln from Z,bb];rfl
  have h2:L2 (bI k xc row).1 r.g=x99:=by unfold L2;rw[show vg (bI k xc row).1=true from aI,List.getLast?_eq_getElem?,ca];rfl
  have X:eG k l r tp=HA r.mem (bL (bI k xc row).1.ask x84) x99 pl (.ofNat (tp+1)) r.g:=by rw[hstep,h1,h2,ao]
  refine cH Z (Qz Z Z Z) (fun _=>Z) (LZ hG hg1 hck A hlen (bL (bI k xc row).1.ask x84) x99 pl aq) ?_;rintro _ U (⟨C,rfl,aq⟩ | ⟨g2,a2,b2_,c2,d2,M2,C,rfl,u,aq⟩)
  ·refine PZ 3 Z<|kp aq Z (QE (cs:=[.ax,.ax,.ax,.ax])) (fun U b6 aq=>?_);refine bO aq Z (QH Z Z Z aq.g0 (m:=4) Z Z (cells':=[_,_,_,_]) Z) Z (fun U aq=>?_);refine ON 10 Z<|aE Z (fun E=>?_) (fun E=>?_)
   ·refine Pt 2 Z (O Z (Qy (places:=[(0,1),(1,4)]) (zero:=[.ax,.ax,.ax,.ax,.ax]) (cs:=[_,_,_,_,_]) Z) Z<|jz aq Z (QH Z Z Z (aq.get 3 Z) (m:=5) Z Z (cells':=[_,_,_,_,_]) Z) Z (fun U aq=>?_));refine OQ 5 Z ?_;exact br Z Z (aq.get 3 Z) (m:=5) Y Z Z (.inl ⟨2,Z,Z,by rw[hR,X];unfold HA;rw[C],(aq.pop.pop.pop.pop.pop).weaken aY⟩)
   exact absurd E (by decide)
  obtain⟨K2,F,a0,aq⟩:=aq.fy;replace u:eN K2 g2 a2 b2_ c2 d2:=u.mono fun b o h=>h.elim (F b o) (a0 (b,o))
  have hmv2:=hmv1.mono F (fun _ _ h=>h);have hgo:=hg1.mono F;refine PZ 3 Z<|kp aq Z (QE (cs:=[.ax,.ax,.ax,.ax])) (fun U b6 aq=>?_);refine bO aq Z (QH Z Z Z aq.g0 (m:=4) Z (ah u.init.leaf.2<|ah u.threads.leaf.2<|ah u.from_.leaf.2<|ah u.order.leaf.2 aC) (cells':=[_,_,_,_]) Z) Z (fun U aq=>?_);refine ON 10 Z<|aE Z (fun E=>?_) (fun E=>?_)
  ·exact absurd E (by decide)
  refine OJ 3 Z (aS (l:=[(0,[]),(1,[]),(2,[]),(4,[]),(6,[]),(3,[4,6]),(5,[]),(7,[])]) Y Y<|j1 aq Z Z (bY (e:=2) (m:=1) (z:=[T]) (cs:=[]) Y Y Y Y bJ) (fun _=>Z) (fun U b7 aq=>?_));replace aq:J U _ ([(b7,.row [] 2 false)]++_):=aq;refine al Z Z (QA 0 Z) Z<|al Z Z (QB Z aq.aQ.pop.pop.pop.pop.g0 Z) Z<|al Z Z (QC Z aq.aQ.g0 (n:=4) (vs:=[_,_,_,_]) Z) Z<|pB aq Z Z (QE (cs:=[.ax,.ax,.ax,.ax,.ax])) (fun _=>Z) (fun U b8 aq=>?_);replace aq:=aq.pull (.there .here);refine kL (R:=dy) (m:=1) (e:=2) cQ.empty aq hmv2 dy.leaf (by have:=hinv.mem;show 0+_<=_;omega) Z Z Z Z Z Z Z Z (fun _=>Z) (fun U c8 c9 hO131 aq=>?_);refine⟨(bB (bN Z Z Z Z Z (QC Z aq.aQ.pop.g0 (n:=4) (vs:=[_,_,_,_]) Z)<|gH<|bS u.init.fD<|bS u.threads.fD<|bS u.from_.fD<|bS u.order.fD fx)<|bB (iq Z Z Z Z Z (cs:=[.ax,.ax,.ax,.ax,.ax]) (e:=44) Y aq.aQ.g0 Y) aV),?_⟩;refine al Z Z (bF (places:=[(0,1),(1,4)]) (zero:=[.ax,.ax,.ax,.ax,.ax]) (cs:=[_,_,_,_,_]) Y Y Y (bD Z Z hO131.leaf.1 Z<|bD Z Z Z Z bJ) Y) Z<|gD aq (.cM .here) Z Z (QH Z Z Z aq.aQ.g0 (m:=5) Z (ah hO131.leaf.2<|ah u.init.leaf.2<|ah u.threads.leaf.2<|ah u.from_.leaf.2<|ah u.order.leaf.2 aC) (cells':=[_,_,_,_,_]) Z) Z (fun U aq=>?_);refine⟨aV,?_⟩;refine OS 9 Z<|aE Z (fun Q=>?_) (fun Q=>?_)
  ·refine P2 aq 2 [0] Z Z<|O Z (QB Z aq.aQ.g0 Z) Z<|O Z (QA 1 Z) Z<|O Z (QB Z aq.aQ.pop.pop.pop.g0 Z) Z<|O Z (QA 4 Z) Z<|O Z (QB Z aq.aQ.pop.pop.pop.g0 Z) Z ?_;have cc:bq (bL (bI k xc row).1.ask x84)=true:=by rcases hq:bq (bL (bI k xc row).1.ask x84) with _ | _;(unfold Ab at ao;rw[hq] at ao;rw[ao] at Q;cases Q);rfl
   obtain⟨_,_,_,_,_,_,_,_,bm,_,_⟩:=jS C;obtain⟨lw,rw_,bo,ce,_⟩:=lP bm cc;have ac:lw<r.mem.length:=by rw[hinv.mem,<-cg];exact(gA.1 ce).1
   rw[List.nil_append] at hO131;obtain⟨b9,dd,bs,rfl,rfl,a1,a3⟩:=Fj hO131 (fun e=>by rw[e] at ac;exact absurd ac<|nZ_ _);rw[List.singleton_append] at aq;have bt:lw<(ints r.mem).length:=by unfold ints;rw[lM_];exact ac
   refine O Z (eo (e:=2) (m:=1) Z Y Z (cI bo) ac) Z<|cC aq .here Z (gR Z Z Z aq.g0 (m:=1) Y Z B<|ah Z Z) Z (fun U aq=>?_);rw[fW bt,ints_set] at aq;refine OO 4 Z<|O Z (QC Z aq.g1 (n:=5) (vs:=[_,_,_,_,_]) Z) Z<|cC aq (.there (.there (.there (.there (.there .here))))) Z (QH Z Z Z (aq.get 5 Z) (m:=5) Z (ah hO131.leaf.2<|ah u.init.leaf.2<|ah u.threads.leaf.2<|ah u.from_.leaf.2<|ah u.order.leaf.2 aC) (cells':=[_,_,_,_,_]) Z) Z (fun U aq=>?_);refine Px 4 Z ?_;have hO9:=Fi (l:=r.mem.set lw (bL (bI k xc row).1.ask x84).write) (b:=b9) (e:=bs) List.length_set a1 a3;have a4:oX r.mem (bL (bI k xc row).1.ask x84) pl=r.mem.set lw (bL (bI k xc row).1.ask x84).write:=by unfold oX;rw[show bU 0 pl=true from Q,bo];rfl
   obtain⟨K3,W,aa,aq⟩:=J.fy (M:=[_]) aq;have q9:=hO9.kq (K:=K3) fun y hy=>aa _ hy
   exact br Z Z (aq.get 4 Z) (m:=5) Y Z Z (.inr ⟨K3,⟨oX r.mem (bL (bI k xc row).1.ask x84) pl,g2⟩,_,_,_,_,_,Z,by rw[hR,X];unfold HA;rw[C],KP.le_trans (KP.le_trans aY F) W,by rw[show(⟨oX r.mem (bL (bI k xc row).1.ask x84) pl,g2⟩:XM).mem=_ from a4];exact q9,u.mono W,aq.pop.pop.pop.pop.pop.pop⟩)
  refine OK 4 Z<|O Z (QC Z aq.aQ.g0 (n:=5) (vs:=[_,_,_,_,_]) Z) Z<|cC aq (.cM (.there (.there (.there (.there .here))))) Z (QH Z Z Z aq.aQ.pop.pop.pop.pop.g0 (m:=5) Z (ah hO131.leaf.2<|ah u.init.leaf.2<|ah u.threads.leaf.2<|ah u.from_.leaf.2<|ah u.order.leaf.2 aC) (cells':=[_,_,_,_,_]) Z) Z (fun U aq=>?_);refine Px 4 Z ?_;rw[List.nil_append] at hO131;have hO9:=hO131;have a4:oX r.mem (bL (bI k xc row).1.ask x84) pl=r.mem:=by unfold oX;rw[show bU 0 pl=false from Q];rfl
  obtain⟨K3,W,aa,aq⟩:=J.fy aq;have q9:=hO9.kq (K:=K3) fun y hy=>aa _ hy
  exact br Z Z (aq.get 4 Z) (m:=5) Y Z Z (.inr ⟨K3,⟨oX r.mem (bL (bI k xc row).1.ask x84) pl,g2⟩,_,_,_,_,_,Z,by rw[hR,X];unfold HA;rw[C],KP.le_trans (KP.le_trans aY F) W,by rw[show(⟨oX r.mem (bL (bI k xc row).1.ask x84) pl,g2⟩:XM).mem=_ from a4];exact q9,u.mono W,aq.pop.pop.pop.pop.pop.pop⟩)
 refine OK 4 Z ?_;replace aq:=aq.sub (.cons_cons _ (.cons_cons _ (.cons _ (.cons_cons _ (.cons_cons _ (.refl _))))));refine Pv 3 Z ?_;refine jv ([13]++rg 101 14) (fun t U=>∃(pl:Int),pl=Ab r.g ((bI k xc row).1.event)/\t.get 13=some (.int .i64 pl)/\J U K ((b5,.row [T,T] 67 false)::(b4,.row [.int .i64 ((bI k xc row).1.event).kind,.int .i64 ((bI k xc row).1.event).loc,.int .i64 ((bI k xc row).1.event).order,.int .i64 ((bI k xc row).1.event).read,.int .i64 ((bI k xc row).1.event).write] 56 false)::(b2,.row [.ax,.ax,.ax,.ax,.ax] 44 false)::(b1,.row [mv,a,b,c,d] 44 false)::L)) ?_ ?_
 ·refine PA aq 5 [0,1] Z Z<|ky Z (an Z) (fun ab=>?_) (fun ab=>?_)
  ·refine PE aq 9 [1] Z Z<|O Z (QC Z (aq.get 3 Z) (n:=4) (vs:=[_,_,_,_]) Z) Z<|P3 aq 2 [1,1] Z Z<|cH Z (Qz Z Z Z) (fun _=>Z) (nR hG hg _ aq) ?_;rintro be U ⟨bi,hM113,aq⟩;refine O Z (xS hM113 Z Z Z (e:=67) Y Z) Z<|PY 2 Z ?_;replace aq:=aq.sub (.trans (.cons_cons _ (.cons_cons _ (.cons_cons _ (.cons_cons _ (.refl _)))))<|List.sublist_append_right _ _);exact⟨Z,oF,_,(by unfold Ab;rw[show bq ((bI k xc row).1.event)=true from by unfold bq;rw[show I ((bI k xc row).1.event).kind 2=true from ab];rfl];rfl),Z,aq⟩
  refine PC aq 6 [0,1] Z Z<|aE Z (fun am=>?_) (fun am=>?_)
  ·refine P2 aq 2 [1] Z Z<|O Z (QC Z (aq.get 3 Z) (n:=4) (vs:=[_,_,_,_]) Z) Z<|P3 aq 2 [1,1] Z Z<|cH Z (Qz Z Z Z) (fun _=>Z) (nR hG hg _ aq) ?_;rintro be U ⟨bi,hM113,aq⟩;refine O Z (xS hM113 Z Z Z (e:=67) Y Z) Z<|PY 2 Z ?_;replace aq:=aq.sub (.trans (.cons_cons _ (.cons_cons _ (.cons_cons _ (.cons_cons _ (.refl _)))))<|List.sublist_append_right _ _);exact⟨Z,oF,_,(by unfold Ab;rw[show bq ((bI k xc row).1.event)=true from by unfold bq;rw[show I ((bI k xc row).1.event).kind 2=false from ab];exact am];rfl),Z,aq⟩
  refine aG ?_;exact⟨Z,oF,_,(by unfold Ab;rw[show bq ((bI k xc row).1.event)=false from by unfold bq;rw[show I ((bI k xc row).1.event).kind 2=false from ab];exact am];rfl),Z,aq⟩
 clear aq;intro t U ar hI;obtain⟨pl,ao,bl,aq⟩:=hI;obtain⟨oo,rfl⟩:=ar.q1 bl Z;refine PA aq 3 [1] Z Z<|O Z (QC Z (aq.get 3 Z) (n:=4) (vs:=[_,_,_,_]) Z) Z<|vQ 1 Z<|O Z (QC Z aq.g1 (n:=5) (vs:=[_,_,_,_,_]) Z) Z<|O Z (QC Z aq.g0 (n:=2) (vs:=[_,_]) Z) Z<|vQ 1 Z ?_;have hlen:bU (.ofNat row.length) 14=true:=bj a9;have hstep:=CE hinv ap A (bj a5) hlen (fun hh=>absurd (show vg (bI k xc row).1=true from hh) (by rw[show vg (bI k xc row).1=false from aI];decide));have h1:eD (bI k xc row).1 r.mem=(bI k xc row).1.event:=by unfold eD;rw[show vg (bI k xc row).1=false from aI];rfl
 have h2:L2 (bI k xc row).1 r.g=⟨0,0⟩:=by unfold L2;rw[show vg (bI k xc row).1=false from aI];rfl
 have X:eG k l r tp=HA r.mem ((bI k xc row).1.event) ⟨0,0⟩ pl (.ofNat (tp+1)) r.g:=by rw[hstep,h1,h2,ao]
 refine cH Z (Qz Z Z Z) (fun _=>Z) (LZ hG hg hck A hlen ((bI k xc row).1.event) ⟨0,0⟩ pl aq) ?_;rintro _ U (⟨C,rfl,aq⟩ | ⟨g2,a2,b2_,c2,d2,M2,C,rfl,u,aq⟩)
 ·refine PZ 3 Z<|kp aq Z (QE (cs:=[.ax,.ax,.ax,.ax])) (fun U b6 aq=>?_);refine bO aq Z (QH Z Z Z aq.g0 (m:=4) Z Z (cells':=[_,_,_,_]) Z) Z (fun U aq=>?_);refine ON 10 Z<|aE Z (fun E=>?_) (fun E=>?_)
  ·refine Pt 2 Z (O Z (Qy (places:=[(0,1),(1,4)]) (zero:=[.ax,.ax,.ax,.ax,.ax]) (cs:=[_,_,_,_,_]) Z) Z<|jz aq Z (QH Z Z Z (aq.get 3 Z) (m:=5) Z Z (cells':=[_,_,_,_,_]) Z) Z (fun U aq=>?_));refine OQ 5 Z ?_;exact br Z Z (aq.get 3 Z) (m:=5) Y Z Z (.inl ⟨2,Z,Z,by rw[hR,X];unfold HA;rw[C],aq.pop.pop.pop.pop.pop⟩)
  exact absurd E (by decide)
 obtain⟨K2,F,a0,aq⟩:=aq.fy;replace u:eN K2 g2 a2 b2_ c2 d2:=u.mono fun b o h=>h.elim (F b o) (a0 (b,o))
 have hmv2:=a6.mono F (fun _ _ h=>h);have hgo:=hg.mono F;refine PZ 3 Z<|kp aq Z (QE (cs:=[.ax,.ax,.ax,.ax])) (fun U b6 aq=>?_);refine bO aq Z (QH Z Z Z aq.g0 (m:=4) Z (ah u.init.leaf.2<|ah u.threads.leaf.2<|ah u.from_.leaf.2<|ah u.order.leaf.2 aC) (cells':=[_,_,_,_]) Z) Z (fun U aq=>?_);refine ON 10 Z<|aE Z (fun E=>?_) (fun E=>?_)
 ·exact absurd E (by decide)
 refine OJ 3 Z (aS (l:=[(0,[]),(1,[]),(2,[]),(4,[]),(6,[]),(3,[4,6]),(5,[]),(7,[])]) Y Y<|j1 aq Z Z (bY (e:=2) (m:=1) (z:=[T]) (cs:=[]) Y Y Y Y bJ) (fun _=>Z) (fun U b7 aq=>?_));replace aq:J U _ ([(b7,.row [] 2 false)]++_):=aq;refine al Z Z (QA 0 Z) Z<|al Z Z (QB Z aq.aQ.pop.pop.pop.pop.g0 Z) Z<|al Z Z (QC Z aq.aQ.g0 (n:=4) (vs:=[_,_,_,_]) Z) Z<|pB aq Z Z (QE (cs:=[.ax,.ax,.ax,.ax,.ax])) (fun _=>Z) (fun U b8 aq=>?_);replace aq:=aq.pull (.there .here);refine kL (R:=dy) (m:=1) (e:=2) cQ.empty aq hmv2 dy.leaf (by have:=hinv.mem;show 0+_<=_;omega) Z Z Z Z Z Z Z Z (fun _=>Z) (fun U c8 c9 hO131 aq=>?_);refine⟨(bB (bN Z Z Z Z Z (QC Z aq.aQ.pop.g0 (n:=4) (vs:=[_,_,_,_]) Z)<|gH<|bS u.init.fD<|bS u.threads.fD<|bS u.from_.fD<|bS u.order.fD fx)<|bB (iq Z Z Z Z Z (cs:=[.ax,.ax,.ax,.ax,.ax]) (e:=44) Y aq.aQ.g0 Y) aV),?_⟩;refine al Z Z (bF (places:=[(0,1),(1,4)]) (zero:=[.ax,.ax,.ax,.ax,.ax]) (cs:=[_,_,_,_,_]) Y Y Y (bD Z Z hO131.leaf.1 Z<|bD Z Z Z Z bJ) Y) Z<|gD aq (.cM .here) Z Z (QH Z Z Z aq.aQ.g0 (m:=5) Z (ah hO131.leaf.2<|ah u.init.leaf.2<|ah u.threads.leaf.2<|ah u.from_.leaf.2<|ah u.order.leaf.2 aC) (cells':=[_,_,_,_,_]) Z) Z (fun U aq=>?_);refine⟨aV,?_⟩;refine OS 9 Z<|aE Z (fun Q=>?_) (fun Q=>?_)
 ·refine P2 aq 2 [0] Z Z<|O Z (QB Z aq.aQ.g0 Z) Z<|O Z (QA 1 Z) Z<|O Z (QB Z aq.aQ.pop.pop.pop.g0 Z) Z<|O Z (QA 4 Z) Z<|O Z (QB Z aq.aQ.pop.pop.pop.g0 Z) Z ?_;have cc:bq ((bI k xc row).1.event)=true:=by rcases hq:bq ((bI k xc row).1.event) with _ | _;(unfold Ab at ao;rw[hq] at ao;rw[ao] at Q;cases Q);rfl
  obtain⟨_,_,_,_,_,_,_,_,bm,_,_⟩:=jS C;obtain⟨lw,rw_,bo,ce,_⟩:=lP bm cc;have ac:lw<r.mem.length:=by rw[hinv.mem,<-cg];exact(gA.1 ce).1
  rw[List.nil_append] at hO131;obtain⟨b9,dd,bs,rfl,rfl,a1,a3⟩:=Fj hO131 (fun e=>by rw[e] at ac;exact absurd ac<|nZ_ _);rw[List.singleton_append] at aq;have bt:lw<(ints r.mem).length:=by unfold ints;rw[lM_];exact ac
  refine O Z (eo (e:=2) (m:=1) Z Y Z (cI bo) ac) Z<|cC aq .here Z (gR Z Z Z aq.g0 (m:=1) Y Z B<|ah Z Z) Z (fun U aq=>?_);rw[fW bt,ints_set] at aq;refine OO 4 Z<|O Z (QC Z aq.g1 (n:=5) (vs:=[_,_,_,_,_]) Z) Z<|cC aq (.there (.there (.there (.there (.there .here))))) Z (QH Z Z Z (aq.get 5 Z) (m:=5) Z (ah hO131.leaf.2<|ah u.init.leaf.2<|ah u.threads.leaf.2<|ah u.from_.leaf.2<|ah u.order.leaf.2 aC) (cells':=[_,_,_,_,_]) Z) Z (fun U aq=>?_);refine Px 4 Z ?_;have hO9:=Fi (l:=r.mem.set lw ((bI k xc row).1.event).write) (b:=b9) (e:=bs) List.length_set a1 a3;have a4:oX r.mem ((bI k xc row).1.event) pl=r.mem.set lw ((bI k xc row).1.event).write:=by unfold oX;rw[show bU 0 pl=true from Q,bo];rfl
  obtain⟨K3,W,aa,aq⟩:=J.fy (M:=[_]) aq;have q9:=hO9.kq (K:=K3) fun y hy=>aa _ hy
  exact br Z Z (aq.get 4 Z) (m:=5) Y Z Z (.inr ⟨K3,⟨oX r.mem ((bI k xc row).1.event) pl,g2⟩,_,_,_,_,_,Z,by rw[hR,X];unfold HA;rw[C],KP.le_trans F W,by rw[show(⟨oX r.mem ((bI k xc row).1.event) pl,g2⟩:XM).mem=_ from a4];exact q9,u.mono W,aq.pop.pop.pop.pop.pop.pop⟩)
 refine OK 4 Z<|O Z (QC Z aq.aQ.g0 (n:=5) (vs:=[_,_,_,_,_]) Z) Z<|cC aq (.cM (.there (.there (.there (.there .here))))) Z (QH Z Z Z aq.aQ.pop.pop.pop.pop.g0 (m:=5) Z (ah hO131.leaf.2<|ah u.init.leaf.2<|ah u.threads.leaf.2<|ah u.from_.leaf.2<|ah u.order.leaf.2 aC) (cells':=[_,_,_,_,_]) Z) Z (fun U aq=>?_);refine Px 4 Z ?_;rw[List.nil_append] at hO131;have hO9:=hO131;have a4:oX r.mem ((bI k xc row).1.event) pl=r.mem:=by unfold oX;rw[show bU 0 pl=false from Q];rfl
 obtain⟨K3,W,aa,aq⟩:=J.fy aq;have q9:=hO9.kq (K:=K3) fun y hy=>aa _ hy
 exact br Z Z (aq.get 4 Z) (m:=5) Y Z Z (.inr ⟨K3,⟨oX r.mem ((bI k xc row).1.event) pl,g2⟩,_,_,_,_,_,Z,by rw[hR,X];unfold HA;rw[C],KP.le_trans F W,by rw[show(⟨oX r.mem ((bI k xc row).1.event) pl,g2⟩:XM).mem=_ from a4];exact q9,u.mono W,aq.pop.pop.pop.pop.pop.pop⟩)
end Go.Ev
end
